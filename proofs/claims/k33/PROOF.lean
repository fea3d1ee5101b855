import PyProof.Rows.All
import Wide.All
import OpenK.AllK
import Wide.FinOn
import PySem.Challenge.RW_allitems_k33_integers_and_data
import HandS.ForMost
import HandS.ForExc
import HandS.More
import HandS.Walk
import HandS.Deep
import HandS.IsInst
import HandS.TupAny
import HandS.StrMore
import HandS.Wide
import HandS.WideBits
import HandS.SortInts
import HandS.Style
import HandS.Flow
import HandS.Codes
import HandS.Zip
import HandS.HeadHook1
import HandS.HeadHook2
import HandS.DictComp
import KE.GoesMore
import KE.KDictPairs
import HandS.Conv
import HandS.NoneIn
import PyProof.TupleOfSeq
import HandS.HeadHook3
import PyProof.Rows.StrMul
import HandS.ExcIs
import KE.KStateDown
import HandS.Head0
import HandS.Head1
import HandS.Head2
import HandS.HeadEnd
set_option Elab.async false
set_option linter.all false
set_option maxRecDepth 100000
set_option maxHeartbeats 4000000
/-! Mn: values without a heap. D: data that no one changes any more; O: what a name holds: data, or a list or dict that this frame alone holds.
A def is read as a plain function of its arguments' values. -/
namespace Mn
open PySem PySem.Spec PyProof.Rows L2

abbrev KK := Sum Int (List Nat)
inductive D where
  | non | bl (b : Bool) | int (i : Int) | str (s : List Nat) | tup (xs : List D) | lst (xs : List D) | dct (kvs : List (KK × D)) | fn (i : Nat) | scr (ns : List Int)
inductive O where
  | fz (d : D) | lst (xs : List O) | dct (kvs : List (KK × O)) | ptp (ds : List D)

def tk : KK → Key
  | .inl i => .inl i
  | .inr s => .inr ⟨s.toArray⟩

section
variable (K : PySem.W.Frag) (ad : Nat → Addr) (H : Hp)
mutual
inductive Is : D → V → Prop
  | non : Is .non .non
  | bl (b : Bool) : Is (.bl b) (.bl b)
  | int (i : Int) : Is (.int i) (.int i)
  | str (s : List Nat) : Is (.str s) (.str ⟨s.toArray⟩)
  | tup {a : Addr} {ds : List D} {vs : List V} : SqT K H a vs → IsL ds vs → Is (.tup ds) (.ref a)
  | lst {a : Addr} {ds : List D} {vs : List V} : H a = some (.lst vs) → IsL ds vs → Is (.lst ds) (.ref a)
  | dct {a : Addr} {kvs : List (KK × D)} {ws : List (Key × V)} : H a = some (.dK ws) → IsK kvs ws → Is (.dct kvs) (.ref a)
  | fn (i : Nat) : Is (.fn i) (.ref (ad i))
  | scr {a : Addr} {ns : List Int} : SqL K H a (ns.map V.int) → Is (.scr ns) (.ref a)
inductive IsL : List D → List V → Prop
  | nil : IsL [] []
  | cons {d : D} {v : V} {ds : List D} {vs : List V} : Is d v → IsL ds vs → IsL (d :: ds) (v :: vs)
inductive IsK : List (KK × D) → List (Key × V) → Prop
  | nil : IsK [] []
  | cons {k : KK} {d : D} {v : V} {ds : List (KK × D)} {vs : List (Key × V)} : Is d v → IsK ds vs → IsK ((k, d) :: ds) ((tk k, v) :: vs)
end
end

theorem Same.sqT {K : PySem.W.Frag} {H H' : Hp} {a : Addr} {xs : List V} (e : Same H H') (h : SqT K H a xs) : SqT K H' a xs := by
  rcases h with (h | ⟨o, h⟩) | h
  · exact .inl (.inl (e _ _ h))
  · exact .inl (.inr ⟨o, e _ _ h⟩)
  · exact .inr h

section
variable {K : PySem.W.Frag} {ad : Nat → Addr} {H H' : Hp}
mutual
theorem Is.mono (e : Same H H') : ∀ {d : D} {v : V}, Is K ad H d v → Is K ad H' d v
  | _, _, .non => .non
  | _, _, .bl b => .bl b
  | _, _, .int b => .int b
  | _, _, .str b => .str b
  | _, _, .tup h r => .tup (Same.sqT e h) (IsL.mono e r)
  | _, _, .lst h r => .lst (e _ _ h) (IsL.mono e r)
  | _, _, .dct h r => .dct (e _ _ h) (IsK.mono e r)
  | _, _, .fn i => .fn i
  | _, _, .scr h => .scr (Same.seq e h)
theorem IsL.mono (e : Same H H') : ∀ {d : List D} {v : List V}, IsL K ad H d v → IsL K ad H' d v
  | _, _, .nil => .nil
  | _, _, .cons h r => .cons (Is.mono e h) (IsL.mono e r)
theorem IsK.mono (e : Same H H') : ∀ {d : List (KK × D)} {v : List (Key × V)}, IsK K ad H d v → IsK K ad H' d v
  | _, _, .nil => .nil
  | _, _, .cons h r => .cons (Is.mono e h) (IsK.mono e r)
end
theorem IsL.length : ∀ {ds : List D} {vs : List V}, IsL K ad H ds vs → ds.length = vs.length
  | _, _, .nil => rfl
  | _, _, .cons _ r => congrArg (· + 1) (IsL.length r)
theorem IsK.length : ∀ {ds : List (KK × D)} {vs : List (Key × V)}, IsK K ad H ds vs → ds.length = vs.length
  | _, _, .nil => rfl
  | _, _, .cons _ r => congrArg (· + 1) (IsK.length r)
theorem IsL.get : ∀ {ds : List D} {vs : List V} {i : Nat} {d : D}, IsL K ad H ds vs → ds[i]? = some d → ∃ v, vs[i]? = some v ∧ Is K ad H d v
  | _, _, _, _, .nil, e => by simp at e
  | _, _, 0, _, .cons h _, e => by simp at e; subst e; exact ⟨_, rfl, h⟩
  | _, _, i + 1, d, .cons _ r, e => by
    obtain ⟨v, h1, h2⟩ := IsL.get (i := i) (d := d) r (by simpa using e)
    exact ⟨v, by simpa using h1, h2⟩
theorem IsL.getV : ∀ {ds : List D} {vs : List V} {i : Nat} {v : V}, IsL K ad H ds vs → vs[i]? = some v → ∃ d, ds[i]? = some d ∧ Is K ad H d v
  | _, _, _, _, .nil, e => by simp at e
  | _, _, 0, _, .cons h _, e => by simp at e; subst e; exact ⟨_, rfl, h⟩
  | _, _, i + 1, d, .cons _ r, e => by
    obtain ⟨v, h1, h2⟩ := IsL.getV (i := i) (v := d) r (by simpa using e)
    exact ⟨v, by simpa using h1, h2⟩
theorem IsL.append : ∀ {ds es : List D} {vs ws : List V}, IsL K ad H ds vs → IsL K ad H es ws → IsL K ad H (ds ++ es) (vs ++ ws)
  | _, _, _, _, .nil, q => q
  | _, _, _, _, .cons h r, q => .cons h (IsL.append r q)
theorem IsL.take : ∀ {ds : List D} {vs : List V} (n : Nat), IsL K ad H ds vs → IsL K ad H (ds.take n) (vs.take n)
  | _, _, 0, _ => by simp; exact .nil
  | _, _, _ + 1, .nil => by simp; exact .nil
  | _, _, n + 1, .cons h r => by simp; exact .cons h (IsL.take n r)
theorem IsL.drop : ∀ {ds : List D} {vs : List V} (n : Nat), IsL K ad H ds vs → IsL K ad H (ds.drop n) (vs.drop n)
  | _, _, 0, r => r
  | _, _, _ + 1, .nil => by simp; exact .nil
  | _, _, n + 1, .cons h r => by simp; exact IsL.drop n r
end

/-! ### what a name holds -/
section
variable (K : PySem.W.Frag) (ad : Nat → Addr) (F H : Hp)
mutual
inductive Rep : O → V → List Addr → Prop
  | fz {d : D} {v : V} : Is K ad F d v → Rep (.fz d) v []
  | lst {a : Addr} {os : List O} {vs : List V} {fp : List Addr} : H a = some (.lst vs) → RepL os vs fp → Rep (.lst os) (.ref a) (a :: fp)
  | dct {a : Addr} {os : List (KK × O)} {ws : List (Key × V)} {fp : List Addr} : H a = some (.dK ws) → (os.map (·.1)).Nodup → RepK os ws fp → Rep (.dct os) (.ref a) (a :: fp)
  | ptp {a : Addr} {o : Obj} {ds : List D} {vs : List V} : F a = some (.frz o (.tup vs)) → o.dict = none → IsL K ad F ds vs → Rep (.ptp ds) (.ref a) []
inductive RepL : List O → List V → List Addr → Prop
  | nil : RepL [] [] []
  | cons {o : O} {v : V} {os : List O} {vs : List V} {f g : List Addr} : Rep o v f → RepL os vs g → RepL (o :: os) (v :: vs) (f ++ g)
inductive RepK : List (KK × O) → List (Key × V) → List Addr → Prop
  | nil : RepK [] [] []
  | cons {k : KK} {o : O} {v : V} {os : List (KK × O)} {vs : List (Key × V)} {f g : List Addr} : Rep o v f → RepK os vs g → RepK ((k, o) :: os) ((tk k, v) :: vs) (f ++ g)
end
/-- the names of a frame -/
inductive RepE : List (Option O) → List (Option V) → List Addr → Prop
  | nil : RepE [] [] []
  | skip {x : Option V} {E : List (Option O)} {S : List (Option V)} {g : List Addr} : RepE E S g → RepE (none :: E) (x :: S) g
  | put {o : O} {v : V} {E : List (Option O)} {S : List (Option V)} {f g : List Addr} : Rep K ad F H o v f → RepE E S g → RepE (some o :: E) (some v :: S) (f ++ g)
end

/-! data that anyone may hold -/
mutual
def O.toD : O → D
  | .fz d => d
  | .lst xs => .lst (O.toDs xs)
  | .dct kvs => .dct (O.toKs kvs)
  | .ptp ds => .tup ds
def O.toDs : List O → List D
  | [] => []
  | x :: xs => x.toD :: O.toDs xs
def O.toKs : List (KK × O) → List (KK × D)
  | [] => []
  | (k, x) :: xs => (k, x.toD) :: O.toKs xs
end

section
variable {K : PySem.W.Frag} {ad : Nat → Addr} {F F' H H' : Hp}
mutual
theorem Rep.mono (e : Same F F') : ∀ {o : O} {v : V} {fp : List Addr}, (∀ a ∈ fp, ∀ u, H a = some u → H' a = some u) → Rep K ad F H o v fp → Rep K ad F' H' o v fp
  | _, _, _, _, .fz h => .fz (Is.mono e h)
  | _, _, _, k, .lst h r => .lst (k _ List.mem_cons_self _ h) (RepL.mono e (fun a ha => k a (List.mem_cons_of_mem _ ha)) r)
  | _, _, _, k, .dct h n r => .dct (k _ List.mem_cons_self _ h) n (RepK.mono e (fun a ha => k a (List.mem_cons_of_mem _ ha)) r)
  | _, _, _, _, .ptp h n r => .ptp (e _ _ h) n (IsL.mono e r)
theorem RepL.mono (e : Same F F') : ∀ {o : List O} {v : List V} {fp : List Addr}, (∀ a ∈ fp, ∀ u, H a = some u → H' a = some u) → RepL K ad F H o v fp → RepL K ad F' H' o v fp
  | _, _, _, _, .nil => .nil
  | _, _, _, k, .cons h r => .cons (Rep.mono e (fun a ha => k a (List.mem_append_left _ ha)) h) (RepL.mono e (fun a ha => k a (List.mem_append_right _ ha)) r)
theorem RepK.mono (e : Same F F') : ∀ {o : List (KK × O)} {v : List (Key × V)} {fp : List Addr}, (∀ a ∈ fp, ∀ u, H a = some u → H' a = some u) → RepK K ad F H o v fp → RepK K ad F' H' o v fp
  | _, _, _, _, .nil => .nil
  | _, _, _, k, .cons h r => .cons (Rep.mono e (fun a ha => k a (List.mem_append_left _ ha)) h) (RepK.mono e (fun a ha => k a (List.mem_append_right _ ha)) r)
end
theorem RepE.mono (e : Same F F') : ∀ {E : List (Option O)} {S : List (Option V)} {fp : List Addr}, (∀ a ∈ fp, ∀ u, H a = some u → H' a = some u) → RepE K ad F H E S fp → RepE K ad F' H' E S fp
  | _, _, _, _, .nil => .nil
  | _, _, _, k, .skip r => .skip (RepE.mono e k r)
  | _, _, _, k, .put h r => .put (Rep.mono e (fun a ha => k a (List.mem_append_left _ ha)) h) (RepE.mono e (fun a ha => k a (List.mem_append_right _ ha)) r)
mutual
theorem Rep.trk : ∀ {o : O} {v : V} {fp : List Addr}, Rep K ad F H o v fp → ∀ a ∈ fp, ∃ u, H a = some u
  | _, _, _, .fz _, a, h => by simp at h
  | _, _, _, .lst h r, a, m => by
    rcases List.mem_cons.mp m with rfl | m
    · exact ⟨_, h⟩
    · exact RepL.trk r a m
  | _, _, _, .dct h _ r, a, m => by
    rcases List.mem_cons.mp m with rfl | m
    · exact ⟨_, h⟩
    · exact RepK.trk r a m
  | _, _, _, .ptp _ _ _, a, h => by simp at h
theorem RepL.trk : ∀ {o : List O} {v : List V} {fp : List Addr}, RepL K ad F H o v fp → ∀ a ∈ fp, ∃ u, H a = some u
  | _, _, _, .nil, a, h => by simp at h
  | _, _, _, .cons h r, a, m => by
    rcases List.mem_append.mp m with m | m
    · exact Rep.trk h a m
    · exact RepL.trk r a m
theorem RepK.trk : ∀ {o : List (KK × O)} {v : List (Key × V)} {fp : List Addr}, RepK K ad F H o v fp → ∀ a ∈ fp, ∃ u, H a = some u
  | _, _, _, .nil, a, h => by simp at h
  | _, _, _, .cons h r, a, m => by
    rcases List.mem_append.mp m with m | m
    · exact Rep.trk h a m
    · exact RepK.trk r a m
end
theorem RepE.trk : ∀ {E : List (Option O)} {S : List (Option V)} {fp : List Addr}, RepE K ad F H E S fp → ∀ a ∈ fp, ∃ u, H a = some u
  | _, _, _, .nil, a, h => by simp at h
  | _, _, _, .skip r, a, m => RepE.trk r a m
  | _, _, _, .put h r, a, m => by
    rcases List.mem_append.mp m with m | m
    · exact Rep.trk h a m
    · exact RepE.trk r a m
/-! as it stands now -/
mutual
theorem Rep.is (e : Same F H) : ∀ {o : O} {v : V} {fp : List Addr}, Rep K ad F H o v fp → Is K ad H o.toD v
  | _, _, _, .fz h => by unfold O.toD; exact Is.mono e h
  | _, _, _, .lst h r => by unfold O.toD; exact .lst h (RepL.is e r)
  | _, _, _, .dct h _ r => by unfold O.toD; exact .dct h (RepK.is e r)
  | _, _, _, .ptp h _ r => by unfold O.toD; exact .tup (Or.inl (Or.inr ⟨_, e _ _ h⟩)) (IsL.mono e r)
theorem RepL.is (e : Same F H) : ∀ {o : List O} {v : List V} {fp : List Addr}, RepL K ad F H o v fp → IsL K ad H (O.toDs o) v
  | _, _, _, .nil => by unfold O.toDs; exact .nil
  | _, _, _, .cons h r => by unfold O.toDs; exact .cons (Rep.is e h) (RepL.is e r)
theorem RepK.is (e : Same F H) : ∀ {o : List (KK × O)} {v : List (Key × V)} {fp : List Addr}, RepK K ad F H o v fp → IsK K ad H (O.toKs o) v
  | _, _, _, .nil => by unfold O.toKs; exact .nil
  | _, _, _, .cons h r => by unfold O.toKs; exact .cons (Rep.is e h) (RepK.is e r)
end
/-! frozen: F' has what stood at fp -/
mutual
theorem Rep.frz (e : Same F F') : ∀ {o : O} {v : V} {fp : List Addr}, (∀ a ∈ fp, ∀ u, H a = some u → F' a = some u) → Rep K ad F H o v fp → Is K ad F' o.toD v
  | _, _, _, _, .fz h => by unfold O.toD; exact Is.mono e h
  | _, _, _, k, .lst h r => by unfold O.toD; exact .lst (k _ List.mem_cons_self _ h) (RepL.frz e (fun a ha => k a (List.mem_cons_of_mem _ ha)) r)
  | _, _, _, k, .dct h _ r => by unfold O.toD; exact .dct (k _ List.mem_cons_self _ h) (RepK.frz e (fun a ha => k a (List.mem_cons_of_mem _ ha)) r)
  | _, _, _, _, .ptp h _ r => by unfold O.toD; exact .tup (Or.inl (Or.inr ⟨_, e _ _ h⟩)) (IsL.mono e r)
theorem RepL.frz (e : Same F F') : ∀ {o : List O} {v : List V} {fp : List Addr}, (∀ a ∈ fp, ∀ u, H a = some u → F' a = some u) → RepL K ad F H o v fp → IsL K ad F' (O.toDs o) v
  | _, _, _, _, .nil => by unfold O.toDs; exact .nil
  | _, _, _, k, .cons h r => by unfold O.toDs; exact .cons (Rep.frz e (fun a ha => k a (List.mem_append_left _ ha)) h) (RepL.frz e (fun a ha => k a (List.mem_append_right _ ha)) r)
theorem RepK.frz (e : Same F F') : ∀ {o : List (KK × O)} {v : List (Key × V)} {fp : List Addr}, (∀ a ∈ fp, ∀ u, H a = some u → F' a = some u) → RepK K ad F H o v fp → IsK K ad F' (O.toKs o) v
  | _, _, _, _, .nil => by unfold O.toKs; exact .nil
  | _, _, _, k, .cons h r => by unfold O.toKs; exact .cons (Rep.frz e (fun a ha => k a (List.mem_append_left _ ha)) h) (RepK.frz e (fun a ha => k a (List.mem_append_right _ ha)) r)
end
theorem RepE.length : ∀ {E : List (Option O)} {S : List (Option V)} {fp : List Addr}, RepE K ad F H E S fp → E.length = S.length
  | _, _, _, .nil => rfl
  | _, _, _, .skip r => congrArg (· + 1) (RepE.length r)
  | _, _, _, .put _ r => congrArg (· + 1) (RepE.length r)
theorem RepE.append : ∀ {E : List (Option O)} {S : List (Option V)} {f : List Addr} {E' : List (Option O)} {S' : List (Option V)} {g : List Addr}, RepE K ad F H E S f → RepE K ad F H E' S' g → RepE K ad F H (E ++ E') (S ++ S') (f ++ g)
  | _, _, _, _, _, _, .nil, q => q
  | _, _, _, _, _, _, .skip r, q => .skip (RepE.append r q)
  | _, _, _, _, _, _, .put h r, q => by rw [List.append_assoc]; exact .put h (RepE.append r q)
theorem RepE.split : ∀ {E : List (Option O)} {S : List (Option V)} {E' : List (Option O)} {S' : List (Option V)} {g : List Addr}, E.length = S.length → RepE K ad F H (E ++ E') (S ++ S') g → ∃ f1 f2, g = f1 ++ f2 ∧ RepE K ad F H E S f1 ∧ RepE K ad F H E' S' f2
  | [], [], _, _, g, _, r => ⟨[], g, rfl, .nil, r⟩
  | [], _ :: _, _, _, _, h, _ => by simp at h
  | _ :: _, [], _, _, _, h, _ => by simp at h
  | _ :: E, _ :: S, _, _, _, h, r => by
    cases r with
    | skip r =>
      obtain ⟨f1, f2, rfl, a, b⟩ := RepE.split (by simpa using h) r
      exact ⟨f1, f2, rfl, .skip a, b⟩
    | put q r =>
      obtain ⟨f1, f2, rfl, a, b⟩ := RepE.split (by simpa using h) r
      exact ⟨_, f2, by rw [List.append_assoc], .put q a, b⟩
theorem RepL.append : ∀ {E : List O} {S : List V} {f : List Addr} {E' : List O} {S' : List V} {g : List Addr}, RepL K ad F H E S f → RepL K ad F H E' S' g → RepL K ad F H (E ++ E') (S ++ S') (f ++ g)
  | _, _, _, _, _, _, .nil, q => q
  | _, _, _, _, _, _, .cons h r, q => by rw [List.append_assoc]; exact .cons h (RepL.append r q)
theorem RepL.length : ∀ {E : List O} {S : List V} {fp : List Addr}, RepL K ad F H E S fp → E.length = S.length
  | _, _, _, .nil => rfl
  | _, _, _, .cons _ r => congrArg (· + 1) (RepL.length r)
theorem RepL.ofIs : ∀ {ds : List D} {vs : List V}, IsL K ad F ds vs → RepL K ad F H (ds.map O.fz) vs []
  | _, _, .nil => .nil
  | _, _, .cons h r => .cons (f := []) (.fz h) (RepL.ofIs r)
theorem RepE.ofL : ∀ {os : List O} {vs : List V} {f : List Addr}, RepL K ad F H os vs f → RepE K ad F H (os.map some) (vs.map some) f
  | _, _, _, .nil => .nil
  | _, _, _, .cons h r => .put h (RepE.ofL r)
theorem RepE.toL : ∀ {os : List O} {vs : List V} {f : List Addr}, RepE K ad F H (os.map some) (vs.map some) f → RepL K ad F H os vs f
  | [], [], _, .nil => .nil
  | [], _ :: _, _, r => by cases r
  | _ :: _, [], _, r => by cases r
  | _ :: _, _ :: _, _, .put h r => .cons h (RepE.toL r)
end

/-! ### a state -/
section
variable (K : PySem.W.Frag) (ad : Nat → Addr)
structure Ok (F H : Hp) (E : List (Option O)) (S : List (Option V)) (fp : List Addr) : Prop where
  sub : Same F H
  rep : RepE K ad F H E S fp
  nd : fp.Nodup
  nf : ∀ a ∈ fp, F a = none
end
structure Step (F H : Hp) (fp : List Addr) (F' H' : Hp) (fp' : List Addr) : Prop where
  f : Same F F'
  h : ∀ b o, H b = some o → b ∉ fp → H' b = some o
  g : ∀ b o, H b = some o → b ∉ fp → F b = none → F' b = none
  t : ∀ b, H' b = none → H b = none
  n : ∀ a ∈ fp', a ∈ fp ∨ H a = none
theorem Step.refl (F H : Hp) (fp : List Addr) : Step F H fp F H fp := ⟨Same.refl _, fun _ _ h _ => h, fun _ _ _ _ h => h, fun _ h => h, fun _ h => .inl h⟩
theorem Step.trans {F H F1 H1 F2 H2 : Hp} {f f1 f2 : List Addr} (a : Step F H f F1 H1 f1) (b : Step F1 H1 f1 F2 H2 f2) : Step F H f F2 H2 f2 := by
  have nm : ∀ c o, H c = some o → c ∉ f → c ∉ f1 := fun c o e hc hm => by
    rcases a.n c hm with q | q
    · exact hc q
    · rw [e] at q; cases q
  refine ⟨a.f.trans b.f, fun c o e hc => b.h c o (a.h c o e hc) (nm c o e hc), fun c o e hc hn => b.g c o (a.h c o e hc) (nm c o e hc) (a.g c o e hc hn), fun c e => a.t c (b.t c e), fun c hc => ?_⟩
  rcases b.n c hc with q | q
  · exact a.n c q
  · exact .inr (a.t c q)
theorem Step.same {F H F' H' : Hp} {fp : List Addr} (f : Same F F') (h : Same H H') (g : ∀ b o, H b = some o → F b = none → F' b = none) (t : ∀ b, H' b = none → H b = none) : Step F H fp F' H' fp :=
  ⟨f, fun b o e _ => h b o e, fun b o e _ => g b o e, t, fun _ h => .inl h⟩
/-- fewer at the end -/
theorem Step.less {F H F' H' : Hp} {f f' f'' : List Addr} (a : Step F H f F' H' f') (h : ∀ x ∈ f'', x ∈ f') : Step F H f F' H' f'' := ⟨a.f, a.h, a.g, a.t, fun c hc => a.n c (h c hc)⟩
theorem Step.more {F H F' H' : Hp} {f f' g : List Addr} (a : Step F H f F' H' f') (h : ∀ x ∈ f, x ∈ g) : Step F H g F' H' f' :=
  ⟨a.f, fun b o e q => a.h b o e fun z => q (h b z), fun b o e q => a.g b o e fun z => q (h b z), a.t, fun c hc => (a.n c hc).imp (h c) id⟩

section
variable {K : PySem.W.Frag} {ad : Nat → Addr} {F H F' H' : Hp} {E E1 E' : List (Option O)} {S S1 S' : List (Option V)} {f f1 f2 f' : List Addr}
/-- what stands beside stays -/
theorem Ok.frame (hl : E1.length = S1.length) (ok : Ok K ad F H (E1 ++ E) (S1 ++ S) f) : ∃ f1 f2, f = f1 ++ f2 ∧ RepE K ad F H E1 S1 f1 ∧ Ok K ad F H E S f2 ∧
    ∀ {F' H' : Hp} {E' : List (Option O)} {S' : List (Option V)} {f' : List Addr}, Step F H f2 F' H' f' → Ok K ad F' H' E' S' f' → Ok K ad F' H' (E1 ++ E') (S1 ++ S') (f1 ++ f') ∧ Step F H f F' H' (f1 ++ f') := by
  obtain ⟨f1, f2, rfl, r1, r2⟩ := RepE.split hl ok.rep
  have nd := List.nodup_append.mp ok.nd
  refine ⟨f1, f2, rfl, r1, ⟨ok.sub, r2, nd.2.1, fun a ha => ok.nf a (List.mem_append_right _ ha)⟩, fun {F' H' E' S' f'} st ok' => ?_⟩
  have dj : ∀ a ∈ f1, a ∉ f2 := fun a h1 h2 => nd.2.2 a h1 a h2 rfl
  have dj' : ∀ a ∈ f1, a ∉ f' := fun a h1 h2 => by
    rcases st.n a h2 with q | q
    · exact dj a h1 q
    · obtain ⟨u, e⟩ := r1.trk a h1
      rw [e] at q; cases q
  refine ⟨⟨ok'.sub, RepE.append (r1.mono st.f fun a ha u e => st.h a u e (dj a ha)) ok'.rep, List.nodup_append.mpr ⟨nd.1, ok'.nd, fun a h1 b h2 e => dj' a h1 (e ▸ h2)⟩, fun a ha => ?_⟩, ?_⟩
  · rcases List.mem_append.mp ha with q | q
    · obtain ⟨u, e⟩ := r1.trk a q
      exact st.g a u e (dj a q) (ok.nf a (List.mem_append_left _ q))
    · exact ok'.nf a q
  · refine ⟨st.f, fun b o e hb => st.h b o e fun z => hb (List.mem_append_right _ z), fun b o e hb => st.g b o e fun z => hb (List.mem_append_right _ z), st.t, fun a ha => ?_⟩
    rcases List.mem_append.mp ha with q | q
    · exact .inl (List.mem_append_left _ q)
    · exact (st.n a q).imp (List.mem_append_right _) id
theorem Ok.drop (hl : E1.length = S1.length) (ok : Ok K ad F H (E1 ++ E) (S1 ++ S) f) : ∃ f2, Ok K ad F H E S f2 ∧ ∀ x ∈ f2, x ∈ f := by
  obtain ⟨f1, f2, rfl, _, o2, _⟩ := ok.frame hl
  exact ⟨f2, o2, fun x hx => List.mem_append_right _ hx⟩
theorem Ok.tl {x : Option O} {y : Option V} (ok : Ok K ad F H (x :: E) (y :: S) f) : ∃ f2, Ok K ad F H E S f2 ∧ ∀ a ∈ f2, a ∈ f := Ok.drop (E1 := [x]) (S1 := [y]) rfl ok
end
end Mn

set_option Elab.async false
set_option linter.all false
set_option maxRecDepth 100000
set_option maxHeartbeats 4000000
namespace Mn
open PySem PySem.Spec PyProof.Rows L2

abbrev En := List (Option O)
/-- how an expression ends: with a value, with an exception of the class c, or in a way that is not read here -/
inductive R (α : Type) where
  | ok (a : α) (E : En) | exc (c : Nat) (E : En) | bad
def R.bind {α β : Type} (r : R α) (k : α → En → R β) : R β := match r with
  | .ok a E => k a E
  | .exc c E => .exc c E
  | .bad => .bad
abbrev M (α : Type) := En → R α
theorem bind_ok {α β : Type} (a : α) (E : En) (k : α → En → R β) : (R.ok a E).bind k = k a E := rfl
theorem bind_exc {α β : Type} (c : Nat) (E : En) (k : α → En → R β) : (R.exc c E : R α).bind k = .exc c E := rfl
theorem bind_bad {α β : Type} (k : α → En → R β) : (R.bad : R α).bind k = .bad := rfl
theorem bind_assoc {α β γ : Type} (r : R α) (k : α → En → R β) (j : β → En → R γ) : (r.bind k).bind j = r.bind fun a E => (k a E).bind j := by
  cases r <;> rfl

section
variable (K : PySem.W.Frag) (ad : Nat → Addr) (W : WX)
/-- what is wanted behind an expression; P, PS: what stands beside -/
def Aft (P : En) (PS : L2.St) (F H : Hp) (f : List Addr) (σ : L2.St) (r : R O) (Q : VK) : Prop := match r with
  | .ok o E' => ∀ F' H' v f', Step F H f F' H' f' → Ok K ad F' H' (P ++ some o :: E') (PS ++ some v :: σ) f' → Q v H'
  | .exc c E' => ∀ F' H' f', Step F H f F' H' f' → Ok K ad F' H' E' σ f' → W (.ref (ad c)) none σ H'
  | .bad => False
def AftL (P : En) (PS : L2.St) (F H : Hp) (f : List Addr) (σ : L2.St) (r : R (List O)) (Q : List V → Hp → Prop) : Prop := match r with
  | .ok os E' => ∀ F' H' vs f', Step F H f F' H' f' → vs.length = os.length → Ok K ad F' H' (P ++ (os.map some ++ E')) (PS ++ (vs.map some ++ σ)) f' → Q vs H'
  | .exc c E' => ∀ F' H' f', Step F H f F' H' f' → Ok K ad F' H' E' σ f' → W (.ref (ad c)) none σ H'
  | .bad => False
def AftT (F H : Hp) (f : List Addr) (σ : L2.St) (r : R Bool) (Q : Bool → Hp → Prop) : Prop := match r with
  | .ok b E' => ∀ F' H' f', Step F H f F' H' f' → Ok K ad F' H' E' σ f' → Q b H'
  | .exc c E' => ∀ F' H' f', Step F H f F' H' f' → Ok K ad F' H' E' σ f' → W (.ref (ad c)) none σ H'
  | .bad => False
end

structure SE (X : Cx) (ad : Nat → Addr) (W : WX) (e : Expr) (m : M O) : Prop where
  ex : ∃ te, PE X e te ∧ ∀ F H E σ f Q, Ok X.K ad F H E σ f → Aft X.K ad W [] [] F H f σ (m E) Q → te σ H Q
structure SA (X : Cx) (ad : Nat → Addr) (W : WX) (es : List Expr) (m : M (List O)) : Prop where
  ex : ∃ ta, PA X es ta ∧ ∀ F H E σ f Q, Ok X.K ad F H E σ f → AftL X.K ad W [] [] F H f σ (m E) Q → ta σ H Q
structure ST (X : Cx) (ad : Nat → Addr) (W : WX) (e : Expr) (m : M Bool) : Prop where
  ex : ∃ tt, PT X e tt ∧ ∀ F H E σ f Q, Ok X.K ad F H E σ f → AftT X.K ad W F H f σ (m E) Q → tt σ H Q
structure SW (X : Cx) (ad : Nat → Addr) (W : WX) (e : Expr) (m : M Bool) : Prop where
  ex : ∃ tt, PW X e tt ∧ ∀ F H E σ f Q, Ok X.K ad F H E σ f → AftT X.K ad W F H f σ (m E) Q → tt σ H Q

section
variable {K : PySem.W.Frag} {ad : Nat → Addr} {W : WX} {P : En} {PS : L2.St} {F H F1 H1 : Hp} {f f1 : List Addr} {σ : L2.St}
theorem Aft.step {r : R O} {Q : VK} (a : Aft K ad W P PS F H f σ r Q) (st : Step F H f F1 H1 f1) : Aft K ad W P PS F1 H1 f1 σ r Q := by
  cases r with
  | ok o E => exact fun F' H' v f' s o => a F' H' v f' (st.trans s) o
  | exc c E => exact fun F' H' f' s o => a F' H' f' (st.trans s) o
  | bad => exact a
theorem AftL.step {r : R (List O)} {Q : List V → Hp → Prop} (a : AftL K ad W P PS F H f σ r Q) (st : Step F H f F1 H1 f1) : AftL K ad W P PS F1 H1 f1 σ r Q := by
  cases r with
  | ok o E => exact fun F' H' v f' s l o => a F' H' v f' (st.trans s) l o
  | exc c E => exact fun F' H' f' s o => a F' H' f' (st.trans s) o
  | bad => exact a
theorem AftT.step {r : R Bool} {Q : Bool → Hp → Prop} (a : AftT K ad W F H f σ r Q) (st : Step F H f F1 H1 f1) : AftT K ad W F1 H1 f1 σ r Q := by
  cases r with
  | ok o E => exact fun F' H' f' s o => a F' H' f' (st.trans s) o
  | exc c E => exact fun F' H' f' s o => a F' H' f' (st.trans s) o
  | bad => exact a
theorem Aft.pre {r : R O} {Q : VK} {f2 : List Addr} (h : ∀ {F' H' : Hp} {E' : En} {S' : L2.St} {f' : List Addr}, Step F H f2 F' H' f' → Ok K ad F' H' E' S' f' → ∃ g, Ok K ad F' H' (P ++ E') (PS ++ S') g ∧ Step F H f F' H' g)
    (ms : ∀ x ∈ f2, x ∈ f) (a : Aft K ad W P PS F H f σ r Q) : Aft K ad W [] [] F H f2 σ r Q := by
  cases r with
  | ok o E =>
    intro F' H' v f' s ok
    obtain ⟨g, o2, s2⟩ := h s ok
    exact a F' H' v g s2 o2
  | exc c E => exact fun F' H' f' s ok => a F' H' f' (s.more ms) ok
  | bad => exact a
theorem AftL.pre {r : R (List O)} {Q : List V → Hp → Prop} {f2 : List Addr} (h : ∀ {F' H' : Hp} {E' : En} {S' : L2.St} {f' : List Addr}, Step F H f2 F' H' f' → Ok K ad F' H' E' S' f' → ∃ g, Ok K ad F' H' (P ++ E') (PS ++ S') g ∧ Step F H f F' H' g)
    (ms : ∀ x ∈ f2, x ∈ f) (a : AftL K ad W P PS F H f σ r Q) : AftL K ad W [] [] F H f2 σ r Q := by
  cases r with
  | ok o E =>
    intro F' H' v f' s l ok
    obtain ⟨g, o2, s2⟩ := h s ok
    exact a F' H' v g s2 l o2
  | exc c E => exact fun F' H' f' s ok => a F' H' f' (s.more ms) ok
  | bad => exact a
end

section
variable {X : Cx} {ad : Nat → Addr} {W : WX} {e : Expr} {es : List Expr} {m : M O} {ms : M (List O)} {mt : M Bool}
theorem Ok.frame' {K : PySem.W.Frag} {P E : En} {PS S : L2.St} {F H : Hp} {f : List Addr} (hl : P.length = PS.length) (ok : Ok K ad F H (P ++ E) (PS ++ S) f) : ∃ f2, Ok K ad F H E S f2 ∧ (∀ x ∈ f2, x ∈ f) ∧
    ∀ {F' H' : Hp} {E' : En} {S' : L2.St} {f' : List Addr}, Step F H f2 F' H' f' → Ok K ad F' H' E' S' f' → ∃ g, Ok K ad F' H' (P ++ E') (PS ++ S') g ∧ Step F H f F' H' g := by
  obtain ⟨g1, g2, rfl, _, o2, k⟩ := ok.frame hl
  exact ⟨g2, o2, fun x hx => List.mem_append_right _ hx, fun s o => ⟨_, k s o⟩⟩
/-- to be used beside other things -/
theorem SE.run (h : SE X ad W e m) : ∃ te, PE X e te ∧ ∀ P PS F H E σ f Q, P.length = PS.length → Ok X.K ad F H (P ++ E) (PS ++ σ) f → Aft X.K ad W P PS F H f σ (m E) Q → te σ H Q := by
  obtain ⟨te, p, q⟩ := h.ex
  refine ⟨te, p, fun P PS F H E σ f Q hl ok a => ?_⟩
  obtain ⟨f2, o2, ms, k⟩ := ok.frame' hl
  exact q F H E σ f2 Q o2 (a.pre k ms)
theorem SA.run (h : SA X ad W es ms) : ∃ ta, PA X es ta ∧ ∀ P PS F H E σ f Q, P.length = PS.length → Ok X.K ad F H (P ++ E) (PS ++ σ) f → AftL X.K ad W P PS F H f σ (ms E) Q → ta σ H Q := by
  obtain ⟨te, p, q⟩ := h.ex
  refine ⟨te, p, fun P PS F H E σ f Q hl ok a => ?_⟩
  obtain ⟨f2, o2, ms, k⟩ := ok.frame' hl
  exact q F H E σ f2 Q o2 (a.pre k ms)
end

/-! ### names, constants -/
def mVar (i : Nat) : M O := fun E => match E[i]? with
  | some (some (.fz d)) => .ok (.fz d) E
  | some (some (.ptp ds)) => .ok (.fz (.tup ds)) E
  | some (some o) => .ok (.fz o.toD) (E.set i (some (.fz o.toD)))
  | _ => .bad
/-- a plain tuple as it is -/
def mVarP (i : Nat) : M O := fun E => match E[i]? with
  | some (some (.ptp ds)) => .ok (.ptp ds) E
  | _ => .bad
def mLit (d : D) : M O := fun E => .ok (.fz d) E

section
variable {K : PySem.W.Frag} {ad : Nat → Addr} {F H : Hp}
theorem RepE.at : ∀ {E : En} {S : L2.St} {f : List Addr} {i : Nat} {o : O}, RepE K ad F H E S f → E[i]? = some (some o) → ∃ v f1 f2, S[i]? = some (some v) ∧ Rep K ad F H o v f1 ∧ RepE K ad F H (E.set i none) S f2 ∧ (f1 ++ f2).Perm f ∧
    ∀ {F' H' : Hp} {o' : O} {f1' f2' : List Addr}, Rep K ad F' H' o' v f1' → RepE K ad F' H' (E.set i none) S f2' → ∃ g, RepE K ad F' H' (E.set i (some o')) S g ∧ g.Perm (f1' ++ f2')
  | _, _, _, _, _, .nil, e => by simp at e
  | _, _, _, 0, _, .skip r, e => by simp at e
  | _, _, _, i + 1, o, .skip r, e => by
    obtain ⟨v, f1, f2, h1, h2, h3, h4, h5⟩ := RepE.at (i := i) (o := o) r (by simpa using e)
    refine ⟨v, f1, f2, by simpa using h1, h2, .skip h3, h4, fun {F' H' o' f1' f2'} a b => ?_⟩
    cases b with
    | skip b =>
      obtain ⟨g, q, p⟩ := h5 a b
      exact ⟨g, .skip q, p⟩
  | _, _, _, 0, o, .put (v := v) (f := f) (g := g) h r, e => by
    simp at e
    subst e
    refine ⟨v, f, g, rfl, h, .skip r, .refl _, fun {F' H' o' f1' f2'} a b => ?_⟩
    cases b with
    | skip b => exact ⟨_, .put a b, .refl _⟩
  | _, _, _, i + 1, o, .put (f := f) (g := g) h r, e => by
    obtain ⟨v, f1, f2, h1, h2, h3, h4, h5⟩ := RepE.at (i := i) (o := o) r (by simpa using e)
    refine ⟨v, f1, f ++ f2, by simpa using h1, h2, .put h h3, ?_, fun {F' H' o' f1' f2'} a b => ?_⟩
    · refine (List.perm_append_comm.trans ?_)
      rw [List.append_assoc]
      exact List.Perm.append_left f (List.perm_append_comm.trans h4)
    · cases b with
      | put x b =>
        obtain ⟨g', q, p⟩ := h5 a b
        refine ⟨_, .put x q, ?_⟩
        refine (List.Perm.append_left _ p).trans ?_
        rw [← List.append_assoc, ← List.append_assoc]
        exact List.Perm.append_right _ List.perm_append_comm
/-- a slot is taken out -/
theorem Ok.take {E : En} {S : L2.St} {f : List Addr} {i : Nat} {o : O} (ok : Ok K ad F H E S f) (e : E[i]? = some (some o)) : ∃ v g, S[i]? = some (some v) ∧ Ok K ad F H (some o :: E.set i none) (some v :: S) g ∧ (∀ x, x ∈ g ↔ x ∈ f) := by
  obtain ⟨v, f1, f2, h1, h2, h3, h4, _⟩ := ok.rep.at e
  refine ⟨v, f1 ++ f2, h1, ⟨ok.sub, .put h2 h3, h4.nodup_iff.mpr ok.nd, fun a ha => ok.nf a (h4.mem_iff.mp ha)⟩, fun x => h4.mem_iff⟩
theorem RepE.putAt : ∀ {E : En} {S : L2.St} {f f1 : List Addr} {i : Nat} {o : O} {v : V}, RepE K ad F H E S f → E[i]? = some none → S[i]? = some (some v) → Rep K ad F H o v f1 → ∃ g, RepE K ad F H (E.set i (some o)) S g ∧ g.Perm (f1 ++ f)
  | _, _, _, _, _, _, _, .nil, e, _, _ => by simp at e
  | _, _, _, _, 0, _, _, .skip r, e, hs, q => by
    simp at hs
    subst hs
    exact ⟨_, .put q r, .refl _⟩
  | _, _, _, _, i + 1, o, v, .skip r, e, hs, q => by
    obtain ⟨g, a, b⟩ := RepE.putAt (i := i) r (by simpa using e) (by simpa using hs) q
    exact ⟨g, .skip a, b⟩
  | _, _, _, _, 0, _, _, .put h r, e, hs, q => by simp at e
  | _, _, _, f1, i + 1, o, v, .put (f := f) h r, e, hs, q => by
    obtain ⟨g, a, b⟩ := RepE.putAt (i := i) r (by simpa using e) (by simpa using hs) q
    refine ⟨_, .put h a, (List.Perm.append_left _ b).trans ?_⟩
    rw [← List.append_assoc, ← List.append_assoc]
    exact List.Perm.append_right _ List.perm_append_comm
/-- a slot is filled again -/
theorem Ok.putAt {E : En} {S : L2.St} {f : List Addr} {i : Nat} {o : O} {v : V} (ok : Ok K ad F H (some o :: E) (some v :: S) f) (e : E[i]? = some none) (hs : S[i]? = some (some v)) : ∃ g, Ok K ad F H (E.set i (some o)) S g ∧ (∀ x, x ∈ g ↔ x ∈ f) := by
  have r := ok.rep
  have nd := ok.nd
  have nf := ok.nf
  cases r with
  | put q r =>
    obtain ⟨g, a, b⟩ := r.putAt e hs q
    exact ⟨g, ⟨ok.sub, a, b.nodup_iff.mpr nd, fun x hx => nf x (b.mem_iff.mp hx)⟩, fun x => b.mem_iff⟩
/-- all that stands at the head's own addresses is given free -/
theorem Ok.freeze {E : En} {S : L2.St} {f : List Addr} {o : O} {v : V} (ok : Ok K ad F H (some o :: E) (some v :: S) f) : ∃ F' f', Step F H f F' H f' ∧ Ok K ad F' H (some (.fz o.toD) :: E) (some v :: S) f' ∧ (∀ x ∈ f', x ∈ f) := by
  have r := ok.rep
  have nd := ok.nd
  have nf := ok.nf
  cases r with
  | put q r =>
    rename_i fo g
    have ndd := List.nodup_append.mp nd
    let F' : Hp := fun b => if b ∈ fo then H b else F b
    have sF : Same F F' := fun b u e => by
      show (if b ∈ fo then H b else F b) = some u
      by_cases hb : b ∈ fo
      · rw [nf b (List.mem_append_left _ hb)] at e; cases e
      · rw [if_neg hb]; exact e
    have inF : ∀ a ∈ fo, ∀ u, H a = some u → F' a = some u := fun a ha u e => by
      show (if a ∈ fo then H a else F a) = some u
      rw [if_pos ha]; exact e
    refine ⟨F', [] ++ g, ⟨sF, fun b o e _ => e, fun b u e hb hn => ?_, fun b e => e, fun a ha => .inl (List.mem_append_right _ (by simpa using ha))⟩, ⟨fun b u e => ?_, .put (.fz (q.frz sF inF)) (r.mono sF fun _ _ _ e => e), by simpa using ndd.2.1, fun a ha => ?_⟩, fun x hx => List.mem_append_right _ (by simpa using hx)⟩
    · show (if b ∈ fo then H b else F b) = none
      rw [if_neg fun z => hb (List.mem_append_left _ z)]; exact hn
    · have e' : (if b ∈ fo then H b else F b) = some u := e
      by_cases hb : b ∈ fo
      · rw [if_pos hb] at e'; exact e'
      · rw [if_neg hb] at e'; exact ok.sub b u e'
    · have ha' : a ∈ g := by simpa using ha
      show (if a ∈ fo then H a else F a) = none
      rw [if_neg fun z => ndd.2.2 a z a ha' rfl]
      exact nf a (List.mem_append_right _ ha')
end

section
variable {X : Cx} {ad : Nat → Addr} {W : WX}
/-- data in front -/
theorem Ok.dat {K : PySem.W.Frag} {F H : Hp} {E : En} {S : L2.St} {f : List Addr} {d : D} {v : V} (ok : Ok K ad F H E S f) (h : Is K ad F d v) : Ok K ad F H (some (.fz d) :: E) (some v :: S) f :=
  ⟨ok.sub, .put (f := []) (.fz h) ok.rep, ok.nd, ok.nf⟩
theorem Step.perm {F H : Hp} {f g : List Addr} (h : ∀ x ∈ g, x ∈ f) : Step F H f F H g := (Step.refl F H f).less h

theorem s_var (i : Nat) {x : Str} {pos : Pos} (hN : X.N[i]? = some x := by rfl) (hv : Vis X.env.scope x := by first | exact Or.inl rfl | exact Or.inr (Or.inl rfl) | exact Or.inr (Or.inr rfl)) (hd : (x == ("__debug__" : Str)) = false := by decide)
    (hcd : (x == ("__classdict__" : Str)) = false := by decide) : SE X ad W (.Name x pos) (mVar i) := by
  refine ⟨_, pe_var hN hv hd hcd, fun F H E σ f Q ok a => ?_⟩
  unfold mVar at a
  split at a
  · next d e =>
    obtain ⟨v, f1, f2, h1, h2, _, _, _⟩ := ok.rep.at e
    cases h2 with
    | fz q => exact ⟨v, h1, a F H v f (Step.refl _ _ _) (ok.dat q)⟩
  · next ds e =>
    obtain ⟨v, f1, f2, h1, h2, _, _, _⟩ := ok.rep.at e
    cases h2 with
    | ptp q1 q2 q3 => exact ⟨_, h1, a F H _ f (Step.refl _ _ _) (ok.dat (.tup (Or.inl (Or.inr ⟨_, q1⟩)) q3))⟩
  · next o _ _ e =>
    obtain ⟨v, g, h1, o1, hm⟩ := ok.take e
    obtain ⟨F', f', st, o2, hm2⟩ := o1.freeze
    have e2 : (E.set i none)[i]? = some none := by
      have := (List.getElem?_eq_some_iff.mp e).1
      simp [List.getElem?_set, this]
    -- the slot and the value: the same data
    have hI : Is X.K ad F' o.toD v := by
      have r := o2.rep
      cases r with
      | put q r => cases q with | fz q => exact q
    obtain ⟨g2, o3, hm3⟩ := o2.putAt e2 h1
    have e3 : (E.set i none).set i (some (O.fz o.toD)) = E.set i (some (.fz o.toD)) := by simp
    rw [e3] at o3
    refine ⟨v, h1, a F' H v g2 ?_ (o3.dat hI)⟩
    exact (Step.perm (fun x hx => (hm x).mp hx)).trans (st.less fun x hx => (hm3 x).mp hx)
  · exact a.elim
theorem s_varP (i : Nat) {x : Str} {pos : Pos} (hN : X.N[i]? = some x := by rfl) (hv : Vis X.env.scope x := by first | exact Or.inl rfl | exact Or.inr (Or.inl rfl) | exact Or.inr (Or.inr rfl)) (hd : (x == ("__debug__" : Str)) = false := by decide)
    (hcd : (x == ("__classdict__" : Str)) = false := by decide) : SE X ad W (.Name x pos) (mVarP i) := by
  refine ⟨_, pe_var hN hv hd hcd, fun F H E σ f Q ok a => ?_⟩
  unfold mVarP at a
  split at a
  · next ds e =>
    obtain ⟨v, f1, f2, h1, h2, _, _, _⟩ := ok.rep.at e
    cases h2 with
    | ptp q1 q2 q3 => exact ⟨_, h1, a F H _ f (Step.refl _ _ _) ⟨ok.sub, .put (f := []) (.ptp q1 q2 q3) ok.rep, ok.nd, ok.nf⟩⟩
  · exact a.elim
theorem lit_of {pe : Expr} {d : D} {v : V} (h : PE X pe (tC v)) (hd : ∀ F, Is X.K ad F d v) : SE X ad W pe (mLit d) :=
  ⟨_, h, fun F H E σ f Q ok a => a F H v f (Step.refl _ _ _) (ok.dat (hd F))⟩
theorem s_int {i : Int} {j : Nat} {pos : Pos} : SE X ad W (.Constant (.int i) j pos) (mLit (.int i)) := lit_of pe_int fun _ => .int i
theorem s_bl {b : Bool} {j : Nat} {pos : Pos} : SE X ad W (.Constant (.bool b) j pos) (mLit (.bl b)) := lit_of pe_bl fun _ => .bl b
theorem s_non {j : Nat} {pos : Pos} : SE X ad W (.Constant .none j pos) (mLit .non) := lit_of pe_non fun _ => .non
theorem s_str {x : Str} {j : Nat} {pos : Pos} (s : List Nat) (h : x = ⟨s.toArray⟩ := by decide +kernel) : SE X ad W (.Constant (.str x) j pos) (mLit (.str s)) := by
  subst h
  exact lit_of pe_str fun _ => .str s
end

/-! ### arguments, operations -/
def mNil : M (List O) := fun E => .ok [] E
def mCons (a : M O) (r : M (List O)) : M (List O) := fun E => (a E).bind fun x E1 => (r E1).bind fun xs E2 => .ok (x :: xs) E2
def mPrim (g : List O → Option O) (as : M (List O)) : M O := fun E => (as E).bind fun xs E1 => match g xs with
  | some o => .ok o E1
  | none => .bad

section
variable {X : Cx} {ad : Nat → Addr} {W : WX} {e : Expr} {es : List Expr} {m : M O} {ms : M (List O)}
theorem s_nil : SA X ad W [] mNil := ⟨_, pa_nil, fun F H E σ f Q ok a => a F H [] f (Step.refl _ _ _) rfl ok⟩
theorem s_cons (ha : SE X ad W e m) (hr : SA X ad W es ms) (hs : starEach (e :: es) X.env = (false, eval e X.env) :: starEach es X.env := by rfl) : SA X ad W (e :: es) (mCons m ms) := by
  obtain ⟨te, pe, qe⟩ := ha.ex
  obtain ⟨ta, pa, qa⟩ := hr.run
  refine ⟨_, pa_cons pe pa hs, fun F H E σ f Q ok a => ?_⟩
  unfold mCons at a
  refine qe F H E σ f _ ok ?_
  cases hm : m E with
  | bad => rw [hm] at a; exact a
  | exc c E' => rw [hm] at a; exact fun F' H' f' s o => a F' H' f' s o
  | ok o E1 =>
    rw [hm, bind_ok] at a
    intro F1 H1 v f1 s1 o1
    refine qa [some o] [some v] F1 H1 E1 σ f1 _ rfl o1 ?_
    cases hm2 : ms E1 with
    | bad => rw [hm2] at a; exact a
    | exc c E' => rw [hm2] at a; exact fun F' H' f' s o => a F' H' f' (s1.trans s) o
    | ok os E2 =>
      rw [hm2, bind_ok] at a
      intro F2 H2 vs f2 s2 l2 o2
      exact a F2 H2 (v :: vs) f2 (s1.trans s2) (by simp [l2]) o2

/-- what an operation of values gives -/
structure Prm (X : Cx) (ad : Nat → Addr) (r : List V → Hp → VK → Prop) (g : List O → Option O) : Prop where
  ok : ∀ F H os vs E σ f Q, Ok X.K ad F H (os.map some ++ E) (vs.map some ++ σ) f → vs.length = os.length →
    (match g os with
      | some o => ∀ F' H' v f', Step F H f F' H' f' → Ok X.K ad F' H' (some o :: E) (some v :: σ) f' → Q v H'
      | none => False) → r vs H Q
theorem prim_of {pe : Expr} {ta : TA} {r : List V → Hp → VK → Prop} {g : List O → Option O} (hp : PE X pe (fun σ H Q => ta σ H fun vs H1 => r vs H1 Q)) (ha : ∀ F H E σ f Q, Ok X.K ad F H E σ f → AftL X.K ad W [] [] F H f σ (ms E) Q → ta σ H Q) (p : Prm X ad r g) :
    SE X ad W pe (mPrim g ms) := by
  refine ⟨_, hp, fun F H E σ f Q ok a => ?_⟩
  refine ha F H E σ f _ ok ?_
  unfold mPrim at a
  cases hm : ms E with
  | bad => rw [hm] at a; exact a
  | exc c E' => rw [hm] at a; exact fun F' H' f' s o => a F' H' f' s o
  | ok os E1 =>
    rw [hm, bind_ok] at a
    intro F1 H1 vs f1 s1 l1 o1
    refine p.ok F1 H1 os vs E1 σ f1 _ o1 l1 ?_
    cases hg : g os with
    | none => rw [hg] at a; exact a
    | some o =>
      rw [hg] at a
      exact fun F' H' v f' s o' => a F' H' v f' (s1.trans s) o'
end
def r2 (r : R2) : List V → Hp → VK → Prop := fun vs H Q => ∃ x y, vs = [x, y] ∧ r x y H Q
def r1 (r : V → Hp → VK → Prop) : List V → Hp → VK → Prop := fun vs H Q => ∃ x, vs = [x] ∧ r x H Q
section
variable {X : Cx} {ad : Nat → Addr} {W : WX} {a b c : Expr} {ma mb mc : M O} {pos : Pos} {g : List O → Option O}
/-- two expressions in a row, as a list -/
theorem two {ta tb : TE} {r : R2} : (fun σ H Q => tCons ta (tCons tb tNil) σ H fun vs H1 => r2 r vs H1 Q) = (fun σ H Q => ta σ H fun x H1 => tb σ H1 fun y H2 => ∃ x' y', [x, y] = [x', y'] ∧ r x' y' H2 Q) := rfl
theorem PE.imp {X : Cx} {e : Expr} {t t' : TE} (h : PE X e t) (k : ∀ σ H Q, t' σ H Q → t σ H Q) : PE X e t' := ⟨fun pins s σ H Q I q => h.run pins s σ H Q I (k _ _ _ q)⟩
/-- a term's reading grows with what is wanted -/
theorem s_bin_of {pe : Expr} {r : R2} (h : ∀ {ta tb : TE}, PE X a ta → PE X b tb → PE X pe (tOp r ta tb)) (ha : SE X ad W a ma) (hb : SE X ad W b mb) (p : Prm X ad (r2 r) g) : SE X ad W pe (mPrim g (mCons ma (mCons mb mNil))) := by
  obtain ⟨ta, pa, qa⟩ := ha.ex
  obtain ⟨tb, pb, qb⟩ := hb.run
  refine ⟨_, h pa pb, fun F H E σ f Q ok q => ?_⟩
  unfold mPrim mCons mNil at q
  refine qa F H E σ f _ ok ?_
  cases hm : ma E with
  | bad => rw [hm] at q; exact q
  | exc c E' => rw [hm] at q; exact fun F' H' f' s o => q F' H' f' s o
  | ok x E1 =>
    rw [hm, bind_ok] at q
    intro F1 H1 v f1 s1 o1
    refine qb [some x] [some v] F1 H1 E1 σ f1 _ rfl o1 ?_
    cases hm2 : mb E1 with
    | bad => rw [hm2] at q; exact q
    | exc c E' => rw [hm2] at q; exact fun F' H' f' s o => q F' H' f' (s1.trans s) o
    | ok y E2 =>
      rw [hm2] at q
      intro F2 H2 u f2 s2 o2
      have z := p.ok F2 H2 [x, y] [v, u] E2 σ f2 Q o2 rfl ?_
      · obtain ⟨x', y', e, z⟩ := z
        simp only [List.cons.injEq, and_true] at e
        obtain ⟨rfl, rfl⟩ := e
        exact z
      · simp only [bind_ok] at q
        cases hg : g [x, y] with
        | none => rw [hg] at q; exact q
        | some o =>
          rw [hg] at q
          exact fun F' H' v f' s o' => q F' H' v f' (s1.trans (s2.trans s)) o'
theorem s_bin {op : Operator} {r : R2} (ho : OpR X (binaryOp op) r) (p : Prm X ad (r2 r) g) (ha : SE X ad W a ma) (hb : SE X ad W b mb) : SE X ad W (.BinOp a op b pos) (mPrim g (mCons ma (mCons mb mNil))) :=
  s_bin_of (pe_op ho) ha hb p
theorem s_cmp {op : CmpOp} {r : R2} (ho : OpR X (compareOp op) r) (p : Prm X ad (r2 r) g) (ha : SE X ad W a ma) (hb : SE X ad W b mb) (hm : behindInMarks op b = false := by first | exact nomark _ | rfl) : SE X ad W (.Compare a [op] [b] pos) (mPrim g (mCons ma (mCons mb mNil))) :=
  s_bin_of (fun pa pb => pe_cmpR ho pa pb hm) ha hb p
theorem s_ix {r : R2} (hr : IxR X r) (p : Prm X ad (r2 r) g) (ha : SE X ad W a ma) (hb : SE X ad W b mb) (hs : PlainIx b := by exact fun _ _ => rfl) : SE X ad W (.Subscript a b pos) (mPrim g (mCons ma (mCons mb mNil))) :=
  s_bin_of (fun pa pb => pe_ix hr pa pb hs) ha hb p
theorem s_un {op : UnaryOp} {r : V → Hp → VK → Prop} (ho : UnR X (unaryOp op) r) (p : Prm X ad (r1 r) g) (ha : SE X ad W a ma) : SE X ad W (.UnaryOp op a pos) (mPrim g (mCons ma mNil)) := by
  obtain ⟨ta, pa, qa⟩ := ha.ex
  refine ⟨_, pe_un ho pa, fun F H E σ f Q ok q => ?_⟩
  unfold mPrim mCons mNil at q
  refine qa F H E σ f _ ok ?_
  cases hm : ma E with
  | bad => rw [hm] at q; exact q
  | exc c E' => rw [hm] at q; exact fun F' H' f' s o => q F' H' f' s o
  | ok x E1 =>
    rw [hm] at q
    intro F1 H1 v f1 s1 o1
    have z := p.ok F1 H1 [x] [v] E1 σ f1 Q o1 rfl ?_
    · obtain ⟨x', e, z⟩ := z
      simp only [List.cons.injEq, and_true] at e
      subst e
      exact z
    · simp only [bind_ok] at q
      cases hg : g [x] with
      | none => rw [hg] at q; exact q
      | some o =>
        rw [hg] at q
        exact fun F' H' v f' s o' => q F' H' v f' (s1.trans s) o'
/-- f(e, ..), f a built-in function; T(e, ..) -/
theorem s_callB {x : Str} {p pos : Pos} {e : Expr} {es : List Expr} {ms : M (List O)} {id : String} {r : List V → Hp → VK → Prop} (hc : CallR X (.builtin id) r) (pr : Prm X ad r g) (hm : X.mg x = none) (ha : SA X ad W (e :: es) ms) (hg : Gl X x := by rfl) (hv : bootBuiltins x = some (.builtin id) := by decide +kernel)
    (hn : x ≠ "__name__" := by decide) (hdb : (x == ("__debug__" : Str)) = false := by decide)
    (he : starEach (e :: es) X.env = (false, eval e X.env) :: starEach es X.env := by rfl) (hpl : (backTo pos (starEach es X.env)).any (·.1) = false := by rfl) : SE X ad W (.Call (.Name x p) (e :: es) [] pos) (mPrim g ms) := by
  obtain ⟨ta, pa, qa⟩ := ha.ex
  exact prim_of (pe_callB hc hg hm hv pa hn hdb he hpl) qa pr
theorem s_callT {x : Str} {p pos : Pos} {e : Expr} {es : List Expr} {ms : M (List O)} {T : String} {r : List V → Hp → VK → Prop} (hc : CallR X (.type T) r) (pr : Prm X ad r g) (hm : X.mg x = none) (ha : SA X ad W (e :: es) ms) (hg : Gl X x := by rfl) (hv : bootBuiltins x = some (.type T) := by decide +kernel)
    (hn : x ≠ "__name__" := by decide) (hdb : (x == ("__debug__" : Str)) = false := by decide)
    (he : starEach (e :: es) X.env = (false, eval e X.env) :: starEach es X.env := by rfl) (hpl : (backTo pos (starEach es X.env)).any (·.1) = false := by rfl) : SE X ad W (.Call (.Name x p) (e :: es) [] pos) (mPrim g ms) := by
  obtain ⟨ta, pa, qa⟩ := ha.ex
  exact prim_of (pe_callTy hc hg hm hv pa hn hdb he hpl) qa pr
end
end Mn

set_option Elab.async false
set_option linter.all false
set_option maxRecDepth 100000
set_option maxHeartbeats 4000000
namespace Mn
open PySem PySem.Spec PyProof.Rows L2

/-! ### tests -/
def tru : D → Option Bool
  | .non => some false
  | .bl b => some b
  | .int i => some (i != 0)
  | .str s => if s.length ≤ sizeLine then some (!s.isEmpty) else none
  | .tup xs => some (!xs.isEmpty)
  | .lst xs => some (!xs.isEmpty)
  | .dct kvs => some (!kvs.isEmpty)
  | _ => none
theorem tru_ok {K : PySem.W.Frag} {ad : Nat → Addr} {H : Hp} {d : D} {v : V} {b : Bool} (h : Is K ad H d v) (e : tru d = some b) : TruV K v H b := by
  cases h with
  | non => exact (Option.some.inj e).symm
  | bl b => exact (Option.some.inj e).symm
  | int i => exact (Option.some.inj e).symm
  | str s =>
    have e2 : (if s.length ≤ sizeLine then some (!s.isEmpty) else none) = some b := e
    by_cases hl : s.length ≤ sizeLine
    · rw [if_pos hl] at e2
      refine ⟨by simpa [PySem.Str.length] using hl, ?_⟩
      rw [← Option.some.inj e2]
      cases s with
      | nil => rfl
      | cons a r =>
        show true = ((((a :: r).toArray.size : Nat) : Int) != 0)
        have : (((a :: r).toArray.size : Nat) : Int) ≠ 0 := by simp only [List.size_toArray, List.length_cons]; omega
        rw [bne_iff_ne.mpr this]
    · rw [if_neg hl] at e2; cases e2
  | tup hs hl =>
    refine .inr (.inl ⟨_, hs, ?_⟩)
    rw [← Option.some.inj e]
    cases hl <;> rfl
  | lst hs hl =>
    refine .inl ⟨_, .inl (.inl hs), ?_⟩
    rw [← Option.some.inj e]
    cases hl <;> rfl
  | dct hs hl =>
    refine .inr (.inr ⟨_, hs, ?_⟩)
    rw [← Option.some.inj e]
    cases hl <;> rfl
  | fn i => cases e
  | scr _ => cases e

def mTru (m : M O) : M Bool := fun E => (m E).bind fun o E1 => match tru o.toD with
  | some b => .ok b E1
  | none => .bad
def mAsB (m : M O) : M Bool := fun E => (m E).bind fun o E1 => match o with
  | .fz (.bl b) => .ok b E1
  | _ => .bad
def mNot (m : M Bool) : M Bool := fun E => (m E).bind fun b E1 => .ok (!b) E1
def mAnd (m n : M Bool) : M Bool := fun E => (m E).bind fun b E1 => if b then n E1 else .ok false E1
def mOr (m n : M Bool) : M Bool := fun E => (m E).bind fun b E1 => if b then .ok true E1 else n E1
def mOfB (m : M Bool) : M O := fun E => (m E).bind fun b E1 => .ok (.fz (.bl b)) E1
def mIte (c : M Bool) (m n : M O) : M O := fun E => (c E).bind fun b E1 => if b then m E1 else n E1

section
variable {K : PySem.W.Frag} {ad : Nat → Addr} {W : WX} {F H : Hp} {f : List Addr} {E : En} {σ : L2.St}
theorem Ok.isHead {o : O} {v : V} (ok : Ok K ad F H (some o :: E) (some v :: σ) f) : Is K ad H o.toD v := by
  have r := ok.rep
  cases r with
  | put q r => exact q.is ok.sub
theorem Ok.head {d : D} {v : V} (ok : Ok K ad F H (some (.fz d) :: E) (some v :: σ) f) : Is K ad F d v := by
  have r := ok.rep
  cases r with
  | put q r => cases q with | fz q => exact q
theorem Ok.tl' {x : Option O} {y : Option V} (ok : Ok K ad F H (x :: E) (y :: σ) f) : ∃ f2, Ok K ad F H E σ f2 ∧ Step F H f F H f2 := by
  obtain ⟨f2, a, b⟩ := ok.tl
  exact ⟨f2, a, Step.perm b⟩
end

section
variable {X : Cx} {ad : Nat → Addr} {W : WX} {a b : Expr} {ma mb mc : M O} {na nb : M Bool} {pos : Pos} {rest : List Expr}
theorem t_truth (ha : SE X ad W a ma) (he : ∀ whole, isTrue a X.env whole = (do let v ← whole; standAt a.pos; holding [v] (truthy v)) := by intro _; rfl) : ST X ad W a (mTru ma) := by
  obtain ⟨ta, pa, qa⟩ := ha.ex
  refine ⟨_, pt_truth pa he, fun F H E σ f Q ok q => ?_⟩
  refine qa F H E σ f _ ok ?_
  unfold mTru at q
  cases hm : ma E with
  | bad => rw [hm] at q; exact q
  | exc c E' => rw [hm] at q; exact fun F' H' f' s o => q F' H' f' s o
  | ok x E1 =>
    rw [hm, bind_ok] at q
    intro F1 H1 v f1 s1 o1
    obtain ⟨f2, o2, s2⟩ := o1.tl'
    cases ht : tru x.toD with
    | none => rw [ht] at q; exact q.elim
    | some b =>
      rw [ht] at q
      exact ⟨b, tru_ok o1.isHead ht, q F1 H1 f2 (s1.trans s2) o2⟩
/-- two expressions and an operation -/
theorem bin_core {r : R2} {g : List O → Option O} (ha : SE X ad W a ma) (hb : SE X ad W b mb) (p : Prm X ad (r2 r) g) : ∃ ta tb, PE X a ta ∧ PE X b tb ∧
    ∀ F H E σ f Q, Ok X.K ad F H E σ f → Aft X.K ad W [] [] F H f σ (mPrim g (mCons ma (mCons mb mNil)) E) Q → tOp r ta tb σ H Q := by
  obtain ⟨ta, pa, qa⟩ := ha.ex
  obtain ⟨tb, pb, qb⟩ := hb.run
  refine ⟨ta, tb, pa, pb, fun F H E σ f Q ok q => ?_⟩
  unfold mPrim mCons mNil at q
  refine qa F H E σ f _ ok ?_
  cases hm : ma E with
  | bad => rw [hm] at q; exact q
  | exc c E' => rw [hm] at q; exact fun F' H' f' s o => q F' H' f' s o
  | ok x E1 =>
    rw [hm, bind_ok] at q
    intro F1 H1 v f1 s1 o1
    refine qb [some x] [some v] F1 H1 E1 σ f1 _ rfl o1 ?_
    cases hm2 : mb E1 with
    | bad => rw [hm2] at q; exact q
    | exc c E' => rw [hm2] at q; exact fun F' H' f' s o => q F' H' f' (s1.trans s) o
    | ok y E2 =>
      rw [hm2] at q
      intro F2 H2 u f2 s2 o2
      have z := p.ok F2 H2 [x, y] [v, u] E2 σ f2 Q o2 rfl ?_
      · obtain ⟨x', y', e, z⟩ := z
        simp only [List.cons.injEq, and_true] at e
        obtain ⟨rfl, rfl⟩ := e
        exact z
      · simp only [bind_ok] at q
        cases hg : g [x, y] with
        | none => rw [hg] at q; exact q
        | some o =>
          rw [hg] at q
          exact fun F' H' v f' s o' => q F' H' v f' (s1.trans (s2.trans s)) o'
theorem asB_core {te : TE} {m : M O} (q : ∀ F H E σ f Q, Ok X.K ad F H E σ f → Aft X.K ad W [] [] F H f σ (m E) Q → te σ H Q) : ∀ F H E σ f Q, Ok X.K ad F H E σ f → AftT X.K ad W F H f σ (mAsB m E) Q → tTest te σ H Q := by
  intro F H E σ f Q ok h
  refine q F H E σ f _ ok ?_
  unfold mAsB at h
  cases hm : m E with
  | bad => rw [hm] at h; exact h
  | exc c E' => rw [hm] at h; exact fun F' H' f' s o => h F' H' f' s o
  | ok x E1 =>
    rw [hm, bind_ok] at h
    intro F1 H1 v f1 s1 o1
    split at h
    · next b =>
      have hI := o1.head
      cases hI
      obtain ⟨f2, o2, s2⟩ := o1.tl'
      exact ⟨b, rfl, h F1 H1 f2 (s1.trans s2) o2⟩
    · exact h.elim
theorem t_cmp {op : CmpOp} {r : R2} {g : List O → Option O} (ho : OpR X (compareOp op) r) (p : Prm X ad (r2 r) g) (ha : SE X ad W a ma) (hb : SE X ad W b mb) (hm : behindInMarks op b = false := by first | exact nomark _ | rfl) :
    ST X ad W (.Compare a [op] [b] pos) (mAsB (mPrim g (mCons ma (mCons mb mNil)))) := by
  obtain ⟨ta, tb, pa, pb, q⟩ := bin_core ha hb p
  exact ⟨_, pt_cmpR ho pa pb hm, asB_core q⟩
theorem t_not (ha : ST X ad W a na) : ST X ad W (.UnaryOp .Not a pos) (mNot na) := by
  obtain ⟨ta, pa, qa⟩ := ha.ex
  refine ⟨_, pt_not pa, fun F H E σ f Q ok q => qa F H E σ f _ ok ?_⟩
  unfold mNot at q
  cases hm : na E with
  | bad => rw [hm] at q; exact q
  | exc c E' => rw [hm] at q; exact q
  | ok x E1 => rw [hm] at q; exact q
theorem SW.pt (h : SW X ad W a na) : ST X ad W a na := by
  obtain ⟨ta, pa, qa⟩ := h.ex
  exact ⟨ta, pa.pt, qa⟩
theorem w_and1 (ha : ST X ad W a na) : SW X ad W (.BoolOp .And [a] pos) na := by
  obtain ⟨ta, pa, qa⟩ := ha.ex
  exact ⟨ta, pw_and1 pa, qa⟩
theorem w_or1 (ha : ST X ad W a na) : SW X ad W (.BoolOp .Or [a] pos) na := by
  obtain ⟨ta, pa, qa⟩ := ha.ex
  exact ⟨ta, pw_or1 pa, qa⟩
theorem w_and (ha : ST X ad W a na) (hb : SW X ad W (.BoolOp .And (b :: rest) pos) nb) : SW X ad W (.BoolOp .And (a :: b :: rest) pos) (mAnd na nb) := by
  obtain ⟨ta, pa, qa⟩ := ha.ex
  obtain ⟨tb, pb, qb⟩ := hb.ex
  refine ⟨_, pw_and pa pb, fun F H E σ f Q ok q => qa F H E σ f _ ok ?_⟩
  unfold mAnd at q
  cases hm : na E with
  | bad => rw [hm] at q; exact q
  | exc c E' => rw [hm] at q; exact q
  | ok x E1 =>
    rw [hm, bind_ok] at q
    intro F1 H1 f1 s1 o1
    cases x with
    | true => exact iteT (qb F1 H1 E1 σ f1 Q o1 (AftT.step q s1))
    | false => exact iteF (q F1 H1 f1 s1 o1)
theorem w_or (ha : ST X ad W a na) (hb : SW X ad W (.BoolOp .Or (b :: rest) pos) nb) : SW X ad W (.BoolOp .Or (a :: b :: rest) pos) (mOr na nb) := by
  obtain ⟨ta, pa, qa⟩ := ha.ex
  obtain ⟨tb, pb, qb⟩ := hb.ex
  refine ⟨_, pw_or pa pb, fun F H E σ f Q ok q => qa F H E σ f _ ok ?_⟩
  unfold mOr at q
  cases hm : na E with
  | bad => rw [hm] at q; exact q
  | exc c E' => rw [hm] at q; exact q
  | ok x E1 =>
    rw [hm, bind_ok] at q
    intro F1 H1 f1 s1 o1
    cases x with
    | false => exact iteF (qb F1 H1 E1 σ f1 Q o1 (AftT.step q s1))
    | true => exact iteT (q F1 H1 f1 s1 o1)
/-- a bool as a value -/
theorem Ok.bl {K : PySem.W.Frag} {F H : Hp} {f : List Addr} {E : En} {σ : L2.St} (ok : Ok K ad F H E σ f) (b : Bool) : Ok K ad F H (some (.fz (.bl b)) :: E) (some (.bl b) :: σ) f := ok.dat (.bl b)
def mAndV (m n : M O) : M O := fun E => (m E).bind fun o E1 => match o with
  | .fz (.bl true) => n E1
  | .fz (.bl false) => .ok (.fz (.bl false)) E1
  | _ => .bad
def mOrV (m n : M O) : M O := fun E => (m E).bind fun o E1 => match o with
  | .fz (.bl false) => n E1
  | .fz (.bl true) => .ok (.fz (.bl true)) E1
  | _ => .bad
def mNotV (m : M O) : M O := fun E => (m E).bind fun o E1 => match o with
  | .fz (.bl b) => .ok (.fz (.bl (!b))) E1
  | _ => .bad
theorem s_one {op : BoolOp} (ha : SE X ad W a ma) : SE X ad W (.BoolOp op [a] pos) ma := by
  obtain ⟨ta, pa, qa⟩ := ha.ex
  exact ⟨ta, pe_one pa, qa⟩
theorem s_and (ha : SE X ad W a ma) (hb : SE X ad W (.BoolOp .And (b :: rest) pos) mb) : SE X ad W (.BoolOp .And (a :: b :: rest) pos) (mAndV ma mb) := by
  obtain ⟨ta, pa, qa⟩ := ha.ex
  obtain ⟨tb, pb, qb⟩ := hb.ex
  refine ⟨_, pe_and pa pb, fun F H E σ f Q ok q => qa F H E σ f _ ok ?_⟩
  unfold mAndV at q
  cases hm : ma E with
  | bad => rw [hm] at q; exact q
  | exc c E' => rw [hm] at q; exact fun F' H' f' s o => q F' H' f' s o
  | ok x E1 =>
    rw [hm, bind_ok] at q
    intro F1 H1 v f1 s1 o1
    obtain ⟨f2, o2, s2⟩ := o1.tl'
    split at q
    · have hI := o1.head
      cases hI
      exact ⟨true, rfl, iteT (qb F1 H1 E1 σ f2 Q o2 (Aft.step q (s1.trans s2)))⟩
    · have hI := o1.head
      cases hI
      exact ⟨false, rfl, iteF (q F1 H1 _ f2 (s1.trans s2) (o2.bl false))⟩
    · exact q.elim
theorem s_or (ha : SE X ad W a ma) (hb : SE X ad W (.BoolOp .Or (b :: rest) pos) mb) : SE X ad W (.BoolOp .Or (a :: b :: rest) pos) (mOrV ma mb) := by
  obtain ⟨ta, pa, qa⟩ := ha.ex
  obtain ⟨tb, pb, qb⟩ := hb.ex
  refine ⟨_, pe_or pa pb, fun F H E σ f Q ok q => qa F H E σ f _ ok ?_⟩
  unfold mOrV at q
  cases hm : ma E with
  | bad => rw [hm] at q; exact q
  | exc c E' => rw [hm] at q; exact fun F' H' f' s o => q F' H' f' s o
  | ok x E1 =>
    rw [hm, bind_ok] at q
    intro F1 H1 v f1 s1 o1
    obtain ⟨f2, o2, s2⟩ := o1.tl'
    split at q
    · have hI := o1.head
      cases hI
      exact ⟨false, rfl, iteF (qb F1 H1 E1 σ f2 Q o2 (Aft.step q (s1.trans s2)))⟩
    · have hI := o1.head
      cases hI
      exact ⟨true, rfl, iteT (q F1 H1 _ f2 (s1.trans s2) (o2.bl true))⟩
    · exact q.elim
theorem s_not (ha : SE X ad W a ma) : SE X ad W (.UnaryOp .Not a pos) (mNotV ma) := by
  obtain ⟨ta, pa, qa⟩ := ha.ex
  refine ⟨_, pe_not pa, fun F H E σ f Q ok q => qa F H E σ f _ ok ?_⟩
  unfold mNotV at q
  cases hm : ma E with
  | bad => rw [hm] at q; exact q
  | exc c E' => rw [hm] at q; exact fun F' H' f' s o => q F' H' f' s o
  | ok x E1 =>
    rw [hm, bind_ok] at q
    intro F1 H1 v f1 s1 o1
    obtain ⟨f2, o2, s2⟩ := o1.tl'
    split at q
    · next b =>
      have hI := o1.head
      cases hI
      exact ⟨b, rfl, q F1 H1 _ f2 (s1.trans s2) (o2.bl (!b))⟩
    · exact q.elim
theorem s_ite {c : Expr} (hc : ST X ad W c na) (ha : SE X ad W a ma) (hb : SE X ad W b mb) : SE X ad W (.IfExp c a b pos) (mIte na ma mb) := by
  obtain ⟨tc, pc, qc⟩ := hc.ex
  obtain ⟨ta, pa, qa⟩ := ha.ex
  obtain ⟨tb, pb, qb⟩ := hb.ex
  refine ⟨_, pe_ifExp pc pa pb, fun F H E σ f Q ok q => qc F H E σ f _ ok ?_⟩
  unfold mIte at q
  cases hm : na E with
  | bad => rw [hm] at q; exact q
  | exc c E' => rw [hm] at q; exact q
  | ok x E1 =>
    rw [hm, bind_ok] at q
    intro F1 H1 f1 s1 o1
    cases x with
    | true => exact iteT (qa F1 H1 E1 σ f1 Q o1 (Aft.step q s1))
    | false => exact iteF (qb F1 H1 E1 σ f1 Q o1 (Aft.step q s1))
end

/-! ### calls of the text's own defs -/
/-- how a call ends: its value and what its first argument holds then (where the def may change it) -/
inductive Cr where
  | ok (o : O) (s : Option O) | exc (c : Nat) | bad
def spOf (K : PySem.W.Frag) (ad : Nat → Addr) (np : Nat) (φ : List O → Cr) : Sp := fun vs H Q Ex => ∃ F os f, vs.length = os.length ∧ os.length = np ∧ Ok K ad F H (os.map some) (vs.map some) f ∧ match φ os with
  | .ok o s => ∀ F' H' v f', Step F H f F' H' f' → Ok K ad F' H' [some o, s] [some v, vs.head?] f' → Q v H'
  | .exc c => ∀ F' H', Step F H f F' H' [] → Same F' H' → Ex (.ref (ad c)) none H'
  | .bad => False
/-- a def that may be called by the name x -/
structure Cal (P : Program) (w : World) (K : PySem.W.Frag) (mg : Str → Option Value) (base : Heap) (A : Around) (ad : Nat → Addr) (x : Str) (np : Nat) (φ : List O → Cr) : Prop where
  ex : ∃ k f fd ps, FnOk P w K mg base (L2.CX P w) k f fd ps (spOf K ad np φ) ∧ Room k A ∧ mg x = some (.ref f) ∧ PySem.W.keepIn K (.ref f) = true ∧ Binds K fd ps []

def mCall (φ : List O → Cr) (vals : M (List O)) : M O := fun E => (vals E).bind fun vs E1 => match φ vs with
  | .ok o _ => .ok o E1
  | .exc c => .exc c E1
  | .bad => .bad
/-- the first argument is the i-th name's, which the def may change -/
def mCallS (φ : List O → Cr) (i : Nat) (vals : M (List O)) : M O := fun E => match E[i]? with
  | some (some _) => (vals E).bind fun vs E1 => match E1[i]? with
    | some (some s) => match φ (s :: vs) with
      | .ok o s' => .ok o (E1.set i s')
      | .exc c => .exc c (E1.set i none)
      | .bad => .bad
    | _ => .bad
  | _ => .bad

section
variable {K : PySem.W.Frag} {ad : Nat → Addr} {F H : Hp} {f : List Addr}
/-- the front alone; what stands behind it stays -/
theorem Ok.front {E1 E : En} {S1 S : L2.St} (hl : E1.length = S1.length) (ok : Ok K ad F H (E1 ++ E) (S1 ++ S) f) : ∃ f1, Ok K ad F H E1 S1 f1 ∧ (∀ x ∈ f1, x ∈ f) ∧
    ∀ {F' H' : Hp} {E' : En} {S' : L2.St} {f' : List Addr}, Step F H f1 F' H' f' → Ok K ad F' H' E' S' f' → ∃ g, Ok K ad F' H' (E' ++ E) (S' ++ S) g ∧ Step F H f F' H' g := by
  obtain ⟨f1, f2, rfl, r1, r2⟩ := RepE.split hl ok.rep
  have nd := List.nodup_append.mp ok.nd
  refine ⟨f1, ⟨ok.sub, r1, nd.1, fun a ha => ok.nf a (List.mem_append_left _ ha)⟩, fun x hx => List.mem_append_left _ hx, fun {F' H' E' S' f'} st ok' => ⟨f' ++ f2, ?_, ?_⟩⟩
  · have dj : ∀ a ∈ f2, a ∉ f1 := fun a h1 h2 => nd.2.2 a h2 a h1 rfl
    refine ⟨ok'.sub, RepE.append ok'.rep (r2.mono st.f fun a ha u e => st.h a u e (dj a ha)), List.nodup_append.mpr ⟨ok'.nd, nd.2.1, fun a h1 b h2 e => ?_⟩, fun a ha => ?_⟩
    · subst e
      rcases st.n a h1 with q | q
      · exact dj a h2 q
      · obtain ⟨u, e⟩ := r2.trk a h2
        rw [e] at q; cases q
    · rcases List.mem_append.mp ha with q | q
      · exact ok'.nf a q
      · obtain ⟨u, e⟩ := r2.trk a q
        exact st.g a u e (dj a q) (ok.nf a (List.mem_append_right _ q))
  · refine ⟨st.f, fun b o e hb => st.h b o e fun z => hb (List.mem_append_left _ z), fun b o e hb => st.g b o e fun z => hb (List.mem_append_left _ z), st.t, fun a ha => ?_⟩
    rcases List.mem_append.mp ha with q | q
    · exact (st.n a q).imp (List.mem_append_left _) id
    · exact .inl (List.mem_append_right _ q)
theorem Ok.skip {E : En} {S : L2.St} {y : Option V} (ok : Ok K ad F H E S f) : Ok K ad F H (none :: E) (y :: S) f := ⟨ok.sub, .skip ok.rep, ok.nd, ok.nf⟩
theorem Ok.del2 {E : En} {S : L2.St} {a s : Option O} {x y : Option V} (ok : Ok K ad F H (a :: s :: E) (x :: y :: S) f) : ∃ g, Ok K ad F H (a :: E) (x :: S) g ∧ ∀ z ∈ g, z ∈ f := by
  obtain ⟨f1, f2, rfl, r1, r2⟩ := RepE.split (E := [a]) (S := [x]) rfl ok.rep
  obtain ⟨f3, f4, rfl, r3, r4⟩ := RepE.split (E := [s]) (S := [y]) rfl r2
  have nd := List.nodup_append.mp ok.nd
  have hs : ∀ z ∈ f1 ++ f4, z ∈ f1 ++ (f3 ++ f4) := fun z hz => by
    rcases List.mem_append.mp hz with q | q
    · exact List.mem_append_left _ q
    · exact List.mem_append_right _ (List.mem_append_right _ q)
  refine ⟨f1 ++ f4, ⟨ok.sub, RepE.append r1 r4, List.nodup_append.mpr ⟨nd.1, (List.nodup_append.mp nd.2.1).2.1, fun a h1 b h2 e => nd.2.2 a h1 b (List.mem_append_right _ h2) e⟩, fun a ha => ok.nf a (hs a ha)⟩, hs⟩
/-- a slot is forgotten -/
theorem Ok.forget {E : En} {S : L2.St} (i : Nat) (ok : Ok K ad F H E S f) : ∃ g, Ok K ad F H (E.set i none) S g ∧ ∀ x ∈ g, x ∈ f := by
  cases e : E[i]? with
  | none =>
    have : E.set i none = E := List.set_eq_of_length_le (List.getElem?_eq_none_iff.mp e)
    rw [this]
    exact ⟨f, ok, fun _ h => h⟩
  | some x =>
    cases x with
    | none =>
      have : E.set i none = E := by
        apply List.ext_getElem?
        intro j
        by_cases hj : i = j
        · subst hj
          have := (List.getElem?_eq_some_iff.mp e).1
          rw [List.getElem?_set_self this, e]
        · rw [List.getElem?_set_ne hj]
      rw [this]
      exact ⟨f, ok, fun _ h => h⟩
    | some o =>
      obtain ⟨v, g, _, o1, hm⟩ := ok.take e
      obtain ⟨g2, o2, hm2⟩ := o1.tl
      exact ⟨g2, o2, fun x hx => (hm x).mp (hm2 x hx)⟩
end

section
variable {X : Cx} {ad : Nat → Addr} {W : WX} {e : Expr} {es : List Expr} {ms : M (List O)} {φ : List O → Cr} {np : Nat} {x : Str} {p pos : Pos}
theorem run_call {H : Hp} {F : Hp} {os : List O} {vs : List V} {E : En} {σ : L2.St} {f : List Addr} {Q : VK} (hx : os.length = np) (hl : vs.length = os.length) (ok : Ok X.K ad F H (os.map some ++ E) (vs.map some ++ σ) f)
    (q : match φ os with
      | .ok o s => ∀ F' H' v f', Step F H f F' H' f' → Ok X.K ad F' H' (some o :: s :: E) (some v :: vs.head? :: σ) f' → Q v H'
      | .exc c => ∀ F' H' f', Step F H f F' H' f' → Ok X.K ad F' H' E σ f' → W (.ref (ad c)) none σ H'
      | .bad => False) : spOf X.K ad np φ vs H Q (WE W σ) := by
  obtain ⟨f1, o1, ms1, k⟩ := ok.front (by simp [hl])
  refine ⟨F, os, f1, hl, hx, o1, ?_⟩
  cases hφ : φ os with
  | ok o s =>
    rw [hφ] at q
    intro F' H' v f' st o'
    obtain ⟨g, o2, s2⟩ := k st o'
    exact q F' H' v g s2 o2
  | exc c =>
    rw [hφ] at q
    intro F' H' st sub
    obtain ⟨g, o2, s2⟩ := k st (⟨sub, .nil, List.nodup_nil, fun a ha => absurd ha (by simp)⟩ : Ok X.K ad F' H' [] [] [])
    exact q F' H' g s2 o2
  | bad => rw [hφ] at q; exact q.elim
/-- the callee's context -/
theorem s_call (c : Cal X.prog X.w X.K X.mg X.base X.A ad x np φ) (tk : Takes X W) (ha : SA X ad W (e :: es) ms) (hn : (e :: es).length = np) (hlen : ∀ E os E', ms E = .ok os E' → os.length = (e :: es).length) (hg : Gl X x := by rfl) (hdb : (x == ("__debug__" : Str)) = false := by decide)
    (he : starEach (e :: es) X.env = (false, eval e X.env) :: starEach es X.env := by rfl) (hpl : (backTo pos (starEach es X.env)).any (·.1) = false := by rfl) : SE X ad W (.Call (.Name x p) (e :: es) [] pos) (mCall φ ms) := by
  obtain ⟨k, fa, fd, ps, F, hr, hm, hk, hb⟩ := c.ex
  obtain ⟨ta, pa, qa⟩ := ha.ex
  refine ⟨_, pe_callS F hr hg hm hk hb (fun σ => passAt tk σ) pa hdb he hpl, fun F0 H E σ f Q ok q => ?_⟩
  refine qa F0 H E σ f _ ok ?_
  unfold mCall at q
  cases hms : ms E with
  | bad => rw [hms] at q; exact q
  | exc c E' => rw [hms] at q; exact fun F' H' f' s o => q F' H' f' s o
  | ok os E1 =>
    rw [hms, bind_ok] at q
    intro F1 H1 vs f1 s1 l1 o1
    refine run_call (by rw [hlen _ _ _ hms, hn]) l1 o1 ?_
    cases hφ : φ os with
    | ok o s =>
      rw [hφ] at q
      intro F' H' v f' st o'
      obtain ⟨g, o2, hm2⟩ := o'.del2
      exact q F' H' v g (s1.trans (st.less hm2)) o2
    | exc c =>
      rw [hφ] at q
      exact fun F' H' f' st o' => q F' H' f' (s1.trans st) o'
    | bad => rw [hφ] at q; exact q.elim
/-- the first argument may be changed -/
theorem s_callS {x1 : Str} {p1 : Pos} (i : Nat) (c : Cal X.prog X.w X.K X.mg X.base X.A ad x np φ) (tk : Takes X W) (hi : X.N[i]? = some x1) (hv : Vis X.env.scope x1) (ha : SA X ad W es ms) (hn : es.length + 1 = np) (hlen : ∀ E os E', ms E = .ok os E' → os.length = es.length) (hg : Gl X x := by rfl)
    (hdb : (x == ("__debug__" : Str)) = false := by decide) (hd1 : (x1 == ("__debug__" : Str)) = false := by decide) (hcd : (x1 == ("__classdict__" : Str)) = false := by decide)
    (he : starEach (.Name x1 p1 :: es) X.env = (false, eval (.Name x1 p1) X.env) :: starEach es X.env := by rfl) (hpl : (backTo pos (starEach es X.env)).any (·.1) = false := by rfl) : SE X ad W (.Call (.Name x p) (.Name x1 p1 :: es) [] pos) (mCallS φ i ms) := by
  obtain ⟨k, fa, fd, ps, F, hr, hm, hk, hb⟩ := c.ex
  obtain ⟨ta, pa, qa⟩ := ha.ex
  refine ⟨_, pe_callS F hr hg hm hk hb (fun σ => passAt tk σ) (pa_cons (pe_var hi hv hd1 hcd) pa he) hdb he hpl, fun F0 H E σ f Q ok q => ?_⟩
  show ∃ v, σ[i]? = some (some v) ∧ _
  unfold mCallS at q
  split at q
  · next o0 h0 =>
    obtain ⟨v, _, _, hvv, _⟩ := ok.rep.at h0
    refine ⟨v, hvv, ?_⟩
    show ta σ H fun xs H2 => spOf X.K ad np φ (v :: xs) H2 Q (WE W σ)
    refine qa F0 H E σ f _ ok ?_
    cases hms : ms E with
    | bad => rw [hms] at q; exact q
    | exc c E' => rw [hms] at q; exact fun F' H' f' s o => q F' H' f' s o
    | ok os E1 =>
      rw [hms, bind_ok] at q
      intro F1 H1 vs f1 s1 l1 o1
      have o1 : Ok X.K ad F1 H1 (os.map some ++ E1) (vs.map some ++ σ) f1 := o1
      cases hE : E1[i]? with
      | none => rw [hE] at q; exact q.elim
      | some so =>
        cases so with
        | none => rw [hE] at q; exact q.elim
        | some s =>
          rw [hE] at q
          replace q : Aft X.K ad W [] [] F0 H f σ (match φ (s :: os) with | .ok o s' => .ok o (E1.set i s') | .exc c => .exc c (E1.set i none) | .bad => .bad) Q := q
          -- take the slot out, in front of the others
          have hE2 : (os.map some ++ E1)[os.length + i]? = some (some s) := by
            rw [List.getElem?_append_right (by simp)]
            simpa using hE
          obtain ⟨v', g, hv', o2, hm2⟩ := o1.take hE2
          have hv2 : (vs.map some ++ σ)[os.length + i]? = σ[i]? := by
            rw [List.getElem?_append_right (by simp [l1])]
            simp [l1]
          rw [hv2, hvv] at hv'
          have e : v = v' := by simpa using hv'
          subst e
          have e2 : (os.map some ++ E1).set (os.length + i) none = os.map some ++ E1.set i none := by
            rw [List.set_append_right _ _ (by simp)]
            simp
          rw [e2] at o2
          have e3 : (E1.set i none)[i]? = some none := by
            have := (List.getElem?_eq_some_iff.mp hE).1
            simp [List.getElem?_set, this]
          have sg : Step F1 H1 f1 F1 H1 g := Step.perm fun x hx => (hm2 x).mp hx
          refine run_call (os := s :: os) (vs := v :: vs) (E := E1.set i none) (by simp [hlen _ _ _ hms, hn]) (by simp [l1]) o2 ?_
          cases hφ : φ (s :: os) with
          | ok o s' =>
            rw [hφ] at q
            intro F' H' u f' st o'
            have o' : Ok X.K ad F' H' (some o :: s' :: E1.set i none) (some u :: some v :: σ) f' := o'
            cases s' with
            | none =>
              obtain ⟨g2, o3, hm3⟩ := o'.del2
              exact q F' H' u g2 (s1.trans (sg.trans (st.less hm3))) o3
            | some s' =>
              -- back into its slot
              obtain ⟨f3, o3, ms3, k3⟩ := Ok.frame' (P := [some o]) (PS := [some u]) rfl o'
              obtain ⟨g2, o4, hm4⟩ := o3.putAt e3 hvv
              rw [List.set_set] at o4
              obtain ⟨g3, o5, s5⟩ := k3 (Step.perm fun x hx => (hm4 x).mp hx) o4
              exact q F' H' u g3 (s1.trans (sg.trans (st.trans s5))) o5
          | exc c =>
            rw [hφ] at q
            exact fun F' H' f' st o' => q F' H' f' (s1.trans (sg.trans st)) o'
          | bad => rw [hφ] at q; exact q.elim
  · exact q.elim
theorem lenNil : ∀ E os E', mNil E = .ok os E' → os.length = 0 := fun E os E' h => by
  cases h; rfl
theorem lenCons {m : M O} {r : M (List O)} {n : Nat} (h : ∀ E os E', r E = .ok os E' → os.length = n) : ∀ E os E', mCons m r E = .ok os E' → os.length = n + 1 := fun E os E' e => by
  unfold mCons at e
  cases hm : m E with
  | bad => rw [hm] at e; cases e
  | exc c E' => rw [hm] at e; cases e
  | ok x E1 =>
    rw [hm, bind_ok] at e
    cases hr : r E1 with
    | bad => rw [hr] at e; cases e
    | exc c E' => rw [hr] at e; cases e
    | ok xs E2 =>
      rw [hr, bind_ok] at e
      cases e
      simp [h _ _ _ hr]
end
end Mn

set_option Elab.async false
set_option linter.all false
set_option maxRecDepth 100000
set_option maxHeartbeats 4000000
namespace Mn
open PySem PySem.Spec PyProof.Rows L2

/-! ### new objects -/
section
variable {K : PySem.W.Frag} {ad : Nat → Addr} {F H : Hp} {f : List Addr} {E : En} {S : L2.St} {p : Addr}
theorem Same.upd {H : Hp} {p : Addr} {o : HO} (n : H p = none) : Same H (upd H p o) := fun b u e => by
  rw [upd_ne (ne_of_none e n)]; exact e
theorem Ok.newTup {ds : List D} {vs : List V} (ok : Ok K ad F H E S f) (n : H p = none) (hl : vs.length ≤ sizeLine) (r : IsL K ad F ds vs) :
    Step F H f (upd F p (.tup vs)) (upd H p (.tup vs)) f ∧ Ok K ad (upd F p (.tup vs)) (upd H p (.tup vs)) (some (.fz (.tup ds)) :: E) (some (.ref p) :: S) f := by
  have nF : F p = none := Same.free ok.sub n
  have sF : Same F (upd F p (.tup vs)) := Same.upd nF
  have np : ∀ a ∈ f, a ≠ p := fun a ha => by
    obtain ⟨u, e⟩ := ok.rep.trk a ha
    exact ne_of_none e n
  refine ⟨⟨sF, fun b o e _ => Same.upd n b o e, fun b o e _ hn => by rw [upd_ne (ne_of_none e n)]; exact hn, fun b e => ?_, fun a ha => .inl ha⟩, ⟨fun b u e => ?_, .put (f := []) (.fz (.tup (.inl (.inl upd_same)) (r.mono sF))) (ok.rep.mono sF fun a ha u e => by rw [upd_ne (np a ha)]; exact e), ok.nd, fun a ha => by rw [upd_ne (np a ha)]; exact ok.nf a ha⟩⟩
  · by_cases hb : b = p
    · subst hb; exact n
    · rw [upd_ne hb] at e; exact e
  · by_cases hb : b = p
    · subst hb; rw [upd_same] at e ⊢; exact e
    · rw [upd_ne hb] at e ⊢; exact ok.sub b u e
theorem Ok.newLst {os : List O} {vs : List V} {P : En} {PS : L2.St} (ok : Ok K ad F H (os.map some ++ E) (vs.map some ++ S) f) (hl : os.length = vs.length) (n : H p = none) :
    Step F H f F (upd H p (.lst vs)) (p :: f) ∧ Ok K ad F (upd H p (.lst vs)) (some (.lst os) :: E) (some (.ref p) :: S) (p :: f) := by
  have nF : F p = none := Same.free ok.sub n
  have np : ∀ a ∈ f, a ≠ p := fun a ha => by
    obtain ⟨u, e⟩ := ok.rep.trk a ha
    exact ne_of_none e n
  obtain ⟨f1, f2, rfl, r1, r2⟩ := RepE.split (by simp [hl]) ok.rep
  refine ⟨⟨Same.refl _, fun b o e _ => Same.upd n b o e, fun b o e _ hn => hn, fun b e => ?_, fun a ha => ?_⟩, ⟨fun b u e => Same.upd n b u (ok.sub b u e), ?_, List.nodup_cons.mpr ⟨fun h => np p h rfl, ok.nd⟩, fun a ha => ?_⟩⟩
  · by_cases hb : b = p
    · subst hb; exact n
    · rw [upd_ne hb] at e; exact e
  · rcases List.mem_cons.mp ha with rfl | ha
    · exact .inr n
    · exact .inl ha
  · have r1' := (RepE.toL r1).mono (H' := upd H p (.lst vs)) (Same.refl F) fun a ha u e => by rw [upd_ne (np a (List.mem_append_left _ ha))]; exact e
    have r2' := r2.mono (H' := upd H p (.lst vs)) (Same.refl F) fun a ha u e => by rw [upd_ne (np a (List.mem_append_right _ ha))]; exact e
    exact .put (f := p :: f1) (.lst upd_same r1') r2'
  · rcases List.mem_cons.mp ha with rfl | ha
    · exact nF
    · exact ok.nf a ha
theorem Ok.newDct (ok : Ok K ad F H E S f) (n : H p = none) :
    Step F H f F (upd H p (.dK [])) (p :: f) ∧ Ok K ad F (upd H p (.dK [])) (some (.dct []) :: E) (some (.ref p) :: S) (p :: f) := by
  have nF : F p = none := Same.free ok.sub n
  have np : ∀ a ∈ f, a ≠ p := fun a ha => by
    obtain ⟨u, e⟩ := ok.rep.trk a ha
    exact ne_of_none e n
  refine ⟨⟨Same.refl _, fun b o e _ => Same.upd n b o e, fun b o e _ hn => hn, fun b e => ?_, fun a ha => ?_⟩, ⟨fun b u e => Same.upd n b u (ok.sub b u e), ?_, List.nodup_cons.mpr ⟨fun h => np p h rfl, ok.nd⟩, fun a ha => ?_⟩⟩
  · by_cases hb : b = p
    · subst hb; exact n
    · rw [upd_ne hb] at e; exact e
  · rcases List.mem_cons.mp ha with rfl | ha
    · exact .inr n
    · exact .inl ha
  · have r2' := ok.rep.mono (H' := upd H p (.dK [])) (Same.refl F) fun a ha u e => by rw [upd_ne (np a ha)]; exact e
    exact .put (f := [p]) (.dct upd_same List.nodup_nil .nil) r2'
  · rcases List.mem_cons.mp ha with rfl | ha
    · exact nF
    · exact ok.nf a ha
/-- all of the front are given free -/
theorem Ok.freezeL : ∀ {os : List O} {vs : List V} {F : Hp} {E : En} {S : L2.St} {f : List Addr}, os.length = vs.length → Ok K ad F H (os.map some ++ E) (vs.map some ++ S) f →
    ∃ F' f', Step F H f F' H f' ∧ Ok K ad F' H E S f' ∧ IsL K ad F' (O.toDs os) vs
  | [], [], F, E, S, f, _, ok => ⟨F, f, Step.refl _ _ _, ok, by unfold O.toDs; exact .nil⟩
  | [], _ :: _, _, _, _, _, h, _ => by simp at h
  | _ :: _, [], _, _, _, _, h, _ => by simp at h
  | o :: os, v :: vs, F, E, S, f, h, ok => by
    have ok : Ok K ad F H (some o :: (os.map some ++ E)) (some v :: (vs.map some ++ S)) f := ok
    obtain ⟨F1, f1, s1, o1, m1⟩ := ok.freeze
    have hI := o1.head
    obtain ⟨f2, o2, s2⟩ := o1.tl'
    obtain ⟨F3, f3, s3, o3, r3⟩ := Ok.freezeL (os := os) (vs := vs) (by simpa using h) o2
    exact ⟨F3, f3, s1.trans (s2.trans s3), o3, by unfold O.toDs; exact .cons (hI.mono s3.f) r3⟩
theorem toDs_map : ∀ ds : List D, O.toDs (ds.map O.fz) = ds
  | [] => rfl
  | d :: ds => by show O.toD (.fz d) :: O.toDs (ds.map O.fz) = d :: ds; rw [toDs_map ds]; rfl
theorem toDs_length : ∀ os : List O, (O.toDs os).length = os.length
  | [] => rfl
  | o :: os => congrArg (· + 1) (toDs_length os)
end

/-! ### displays -/
def pTup : List O → Option O := fun os => if os.length ≤ sizeLine then some (.fz (.tup (O.toDs os))) else none
def pLst : List O → Option O := fun os => if os.length ≤ sizeLine then some (.lst os) else none
section
variable {X : Cx} {ad : Nat → Addr} {W : WX} {es : List Expr} {ms : M (List O)} {pos : Pos}
theorem s_tup {x1} (ha : SA X ad W es ms) : SE X ad W (.Tuple es x1 pos) (mPrim pTup ms) := by
  obtain ⟨ta, pa, qa⟩ := ha.ex
  refine prim_of (r := fun vs H Q => vs.length ≤ sizeLine ∧ ∀ p, H p = none → Q (.ref p) (upd H p (.tup vs))) (pe_tup pa) qa ⟨fun F H os vs E σ f Q ok hl q => ?_⟩
  unfold pTup at q
  by_cases h : os.length ≤ sizeLine
  · rw [if_pos h] at q
    refine ⟨by omega, fun p n => ?_⟩
    obtain ⟨F1, f1, s1, o1, r1⟩ := Ok.freezeL hl.symm ok
    obtain ⟨s2, o2⟩ := o1.newTup n (by omega) r1
    exact q _ _ _ f1 (s1.trans s2) o2
  · rw [if_neg h] at q; exact q.elim
theorem s_lst (ha : SA X ad W es ms) : SE X ad W (.List es pos) (mPrim pLst ms) := by
  obtain ⟨ta, pa, qa⟩ := ha.ex
  refine prim_of (r := fun vs H Q => vs.length ≤ sizeLine ∧ ∀ p, H p = none → Q (.ref p) (upd H p (.lst vs))) (pe_lst pa) qa ⟨fun F H os vs E σ f Q ok hl q => ?_⟩
  unfold pLst at q
  by_cases h : os.length ≤ sizeLine
  · rw [if_pos h] at q
    refine ⟨by omega, fun p n => ?_⟩
    obtain ⟨s2, o2⟩ := ok.newLst (P := []) (PS := []) hl.symm n
    exact q _ _ _ _ s2 o2
  · rw [if_neg h] at q; exact q.elim
end
def mDct0 : M O := fun E => .ok (.dct []) E
theorem s_dct0 {X : Cx} {ad : Nat → Addr} {W : WX} {pos : Pos} : SE X ad W (.Dict [] [] pos) mDct0 :=
  ⟨_, pe_dnewK, fun F H E σ f Q ok q p n => by
    obtain ⟨s2, o2⟩ := ok.newDct n
    exact q _ _ _ _ s2 o2⟩

/-! ### operations that only read -/
section
variable {X : Cx} {ad : Nat → Addr}
theorem Ok.isL {K : PySem.W.Frag} {F H : Hp} {os : List O} {vs : List V} {E : En} {S : L2.St} {f : List Addr} (hl : vs.length = os.length) (ok : Ok K ad F H (os.map some ++ E) (vs.map some ++ S) f) : IsL K ad H (O.toDs os) vs := by
  obtain ⟨f1, f2, rfl, r1, r2⟩ := RepE.split (by simp [hl]) ok.rep
  exact (RepE.toL r1).is ok.sub
theorem Ok.rest {K : PySem.W.Frag} {F H : Hp} {os : List O} {vs : List V} {E : En} {S : L2.St} {f : List Addr} (hl : vs.length = os.length) (ok : Ok K ad F H (os.map some ++ E) (vs.map some ++ S) f) : ∃ g, Ok K ad F H E S g ∧ Step F H f F H g := by
  obtain ⟨g, a, b⟩ := Ok.drop (by simp [hl]) ok
  exact ⟨g, a, Step.perm b⟩
/-- a scalar comes of it -/
theorem prm_rd {r : List V → Hp → VK → Prop} {g : List D → Option D} (h : ∀ H ds vs d Q, IsL X.K ad H ds vs → g ds = some d → (∀ v, (∀ F, Is X.K ad F d v) → Q v H) → r vs H Q) : Prm X ad r (fun os => (g (O.toDs os)).map O.fz) := by
  refine ⟨fun F H os vs E σ f Q ok hl q => ?_⟩
  cases hg : g (O.toDs os) with
  | none => rw [hg] at q; exact q.elim
  | some d =>
    rw [hg] at q
    obtain ⟨f2, o2, s2⟩ := ok.rest hl
    exact h H _ vs d Q (ok.isL hl) hg fun v hv => q F H v f2 s2 (o2.dat (hv F))
theorem Prm.imp {r r' : List V → Hp → VK → Prop} {g : List O → Option O} (p : Prm X ad r g) (h : ∀ vs H Q, r vs H Q → r' vs H Q) : Prm X ad r' g := ⟨fun F H os vs E σ f Q ok hl q => h _ _ _ (p.ok F H os vs E σ f Q ok hl q)⟩
/-- the first that has something to say -/
def orO (g g' : List O → Option O) : List O → Option O := fun os => match g os with
  | some o => some o
  | none => g' os
theorem Prm.or {r r' : R2} {g g' : List O → Option O} (p : Prm X ad (r2 r) g) (p' : Prm X ad (r2 r') g') : Prm X ad (r2 fun x y H Q => r x y H Q ∨ r' x y H Q) (orO g g') := by
  refine ⟨fun F H os vs E σ f Q ok hl q => ?_⟩
  unfold orO at q
  cases hg : g os with
  | some o =>
    rw [hg] at q
    obtain ⟨x, y, e, z⟩ := p.ok F H os vs E σ f Q ok hl (by rw [hg]; exact q)
    exact ⟨x, y, e, .inl z⟩
  | none =>
    rw [hg] at q
    obtain ⟨x, y, e, z⟩ := p'.ok F H os vs E σ f Q ok hl q
    exact ⟨x, y, e, .inr z⟩
end

/-! ### numbers -/
def dII (g : Int → Int → D) : List D → Option D
  | [.int i, .int j] => some (g i j)
  | _ => none
def dIIc (c : Int → Int → Bool) (g : Int → Int → D) : List D → Option D
  | [.int i, .int j] => if c i j then some (g i j) else none
  | _ => none
section
variable {X : Cx} {ad : Nat → Addr}
theorem prm_II {g : Int → Int → V} {k : Int → Int → D} (h : ∀ i j F, Is X.K ad F (k i j) (g i j)) : Prm X ad (r2 (rI0 g)) (fun os => (dII k (O.toDs os)).map O.fz) := by
  refine prm_rd fun H ds vs d Q r e q => ?_
  unfold dII at e
  split at e
  · next i j =>
    cases r with
    | cons r1 r =>
      cases r with
      | cons r2 r =>
        cases r; cases r1; cases r2; cases e
        exact ⟨_, _, rfl, i, j, rfl, rfl, q _ fun F => h i j F⟩
  · cases e
theorem prm_IIc {C : Int → Int → Prop} {c : Int → Int → Bool} {g : Int → Int → V} {k : Int → Int → D} (hc : ∀ i j, c i j = true → C i j) (h : ∀ i j F, Is X.K ad F (k i j) (g i j)) : Prm X ad (r2 (rI C g)) (fun os => (dIIc c k (O.toDs os)).map O.fz) := by
  refine prm_rd fun H ds vs d Q r e q => ?_
  unfold dIIc at e
  split at e
  · next i j =>
    cases r with
    | cons r1 r =>
      cases r with
      | cons r2 r =>
        cases r; cases r1; cases r2
        split at e
        · next hcc =>
          cases e
          exact ⟨_, _, rfl, i, j, rfl, rfl, hc i j hcc, q _ fun F => h i j F⟩
        · cases e
  · cases e
def pAddI : List O → Option O := fun os => (dII (fun i j => .int (i + j)) (O.toDs os)).map O.fz
def pSub : List O → Option O := fun os => (dII (fun i j => .int (i - j)) (O.toDs os)).map O.fz
def pMulI : List O → Option O := fun os => (dIIc (fun i j => decide (i.natAbs.log2 + j.natAbs.log2 < 1000000)) (fun i j => .int (i * j)) (O.toDs os)).map O.fz
def pDiv : List O → Option O := fun os => (dIIc (fun _ j => decide (0 < j ∧ j < 1073741824)) (fun i j => .int (i / j)) (O.toDs os)).map O.fz
def pMod : List O → Option O := fun os => (dIIc (fun _ j => decide (0 < j)) (fun i j => .int (i % j)) (O.toDs os)).map O.fz
def pPow : List O → Option O := fun os => (dIIc (fun i j => decide (0 ≤ j ∧ j ≤ 1000000 ∧ i.natAbs < 2 ^ 64)) (fun i j => .int (i ^ j.toNat)) (O.toDs os)).map O.fz
theorem k_addI : Prm X ad (r2 (rI0 fun i j => .int (i + j))) pAddI := prm_II fun _ _ _ => .int _
theorem k_sub : Prm X ad (r2 (rI0 fun i j => .int (i - j))) pSub := prm_II fun _ _ _ => .int _
theorem k_mulI : Prm X ad (r2 (rI CMulW fun i j => .int (i * j))) pMulI := prm_IIc (fun i j h => by have h2 := of_decide_eq_true h; exact h2) fun _ _ _ => .int _
theorem k_div : Prm X ad (r2 (rI CDiv fun i j => .int (i / j))) pDiv := prm_IIc (fun i j h => by have h2 := of_decide_eq_true h; exact h2) fun _ _ _ => .int _
theorem k_mod : Prm X ad (r2 (rI (fun _ j => 0 < j) fun i j => .int (i % j))) pMod := prm_IIc (fun i j h => by have h2 := of_decide_eq_true h; exact h2) fun _ _ _ => .int _
theorem k_pow : Prm X ad (r2 (rI CPow fun i j => .int (i ^ j.toNat))) pPow := prm_IIc (fun i j h => by have h2 := of_decide_eq_true h; exact h2) fun _ _ _ => .int _
def dU (g : Int → D) : List D → Option D
  | [.int i] => some (g i)
  | _ => none
def pNeg : List O → Option O := fun os => (dU (fun i => .int (-i)) (O.toDs os)).map O.fz
theorem k_neg : Prm X ad (r1 (rU fun i => .int (-i))) pNeg := by
  refine prm_rd fun H ds vs d Q r e q => ?_
  unfold dU at e
  split at e
  · next i =>
    cases r with
    | cons r1 r => cases r; cases r1; cases e; exact ⟨_, rfl, i, rfl, q _ fun F => .int _⟩
  · cases e

/-! ### order -/
def dOrd (g : Int → Int → Bool) (k : List Nat → List Nat → Bool) : List D → Option D
  | [.int i, .int j] => some (.bl (g i j))
  | [.str i, .str j] => some (.bl (k i j))
  | _ => none
def rOrd (g : Int → Int → Bool) (k : List Nat → List Nat → Bool) : R2 := fun x y H Q => (∃ i j, x = .int i ∧ y = .int j ∧ Q (.bl (g i j)) H) ∨ ∃ i j, x = .str i ∧ y = .str j ∧ Q (.bl (k i.cps.toList j.cps.toList)) H
theorem k_ord {g : Int → Int → Bool} {k : List Nat → List Nat → Bool} : Prm X ad (r2 (rOrd g k)) (fun os => (dOrd g k (O.toDs os)).map O.fz) := by
  refine prm_rd fun H ds vs d Q r e q => ?_
  unfold dOrd at e
  split at e
  · next i j =>
    cases r with
    | cons r1 r => cases r with
      | cons r2 r => cases r; cases r1; cases r2; cases e; exact ⟨_, _, rfl, .inl ⟨i, j, rfl, rfl, q _ fun F => .bl _⟩⟩
  · next i j =>
    cases r with
    | cons r1 r => cases r with
      | cons r2 r =>
        cases r; cases r1; cases r2; cases e
        exact ⟨_, _, rfl, .inr ⟨_, _, rfl, rfl, by simpa using q _ fun F => .bl _⟩⟩
  · cases e
def pLt : List O → Option O := fun os => (dOrd (fun i j => decide (i < j)) (fun i j => decide (i < j)) (O.toDs os)).map O.fz
def pLe : List O → Option O := fun os => (dOrd (fun i j => decide (i ≤ j)) (fun i j => !decide (j < i)) (O.toDs os)).map O.fz
def pGt : List O → Option O := fun os => (dOrd (fun i j => decide (j < i)) (fun i j => decide (j < i)) (O.toDs os)).map O.fz
def pGe : List O → Option O := fun os => (dOrd (fun i j => decide (j ≤ i)) (fun i j => !decide (i < j)) (O.toDs os)).map O.fz
theorem o_lt : OpR X (compareOp .Lt) (rOrd (fun i j => decide (i < j)) (fun i j => decide (i < j))) := fun pins s σ H x y v u Q I rx ry h => by
  rcases h with h | h
  · exact op_lt pins s σ H x y v u Q I rx ry h
  · exact op_lt_str pins s σ H x y v u Q I rx ry h
theorem o_le : OpR X (compareOp .LtE) (rOrd (fun i j => decide (i ≤ j)) (fun i j => !decide (j < i))) := fun pins s σ H x y v u Q I rx ry h => by
  rcases h with h | h
  · exact op_le pins s σ H x y v u Q I rx ry h
  · exact op_le_str pins s σ H x y v u Q I rx ry h
theorem o_gt : OpR X (compareOp .Gt) (rOrd (fun i j => decide (j < i)) (fun i j => decide (j < i))) := fun pins s σ H x y v u Q I rx ry h => by
  rcases h with h | h
  · exact op_gt pins s σ H x y v u Q I rx ry h
  · exact op_gt_str pins s σ H x y v u Q I rx ry h
theorem o_ge : OpR X (compareOp .GtE) (rOrd (fun i j => decide (j ≤ i)) (fun i j => !decide (i < j))) := fun pins s σ H x y v u Q I rx ry h => by
  rcases h with h | h
  · exact op_ge pins s σ H x y v u Q I rx ry h
  · exact op_ge_str pins s σ H x y v u Q I rx ry h
theorem k_lt : Prm X ad (r2 (rOrd (fun i j => decide (i < j)) (fun i j => decide (i < j)))) pLt := k_ord
theorem k_le : Prm X ad (r2 (rOrd (fun i j => decide (i ≤ j)) (fun i j => !decide (j < i)))) pLe := k_ord
theorem k_gt : Prm X ad (r2 (rOrd (fun i j => decide (j < i)) (fun i j => decide (j < i)))) pGt := k_ord
theorem k_ge : Prm X ad (r2 (rOrd (fun i j => decide (j ≤ i)) (fun i j => !decide (i < j)))) pGe := k_ord
end

/-! ### == of data -/
mutual
def D.py : D → Option PyData
  | .non => some .none
  | .bl b => some (.bool b)
  | .int i => some (.int i)
  | .str s => some (.str ⟨s.toArray⟩)
  | .tup xs => (D.pys xs).map .tuple
  | .lst xs => (D.pys xs).map .list
  | .dct _ => none
  | .fn _ => none
  | .scr _ => none
def D.pys : List D → Option (List PyData)
  | [] => some []
  | x :: xs => match x.py, D.pys xs with
    | some d, some ds => some (d :: ds)
    | _, _ => none
end
section
variable {K : PySem.W.Frag} {ad : Nat → Addr} {H : Hp}
mutual
theorem Is.dp : ∀ {d : D} {v : V} {e : PyData}, Is K ad H d v → d.py = some e → Dp K H v e
  | _, _, _, .non, h => by cases h; exact .non
  | _, _, _, .bl b, h => by cases h; exact .bl b
  | _, _, _, .int b, h => by cases h; exact .int b
  | _, _, _, .str b, h => by cases h; exact .str _
  | _, _, e, .tup (ds := ds) hs r, h => by
    unfold D.py at h
    cases q : D.pys ds with
    | none => rw [q] at h; cases h
    | some es => rw [q] at h; cases h; exact .tup hs (IsL.dp r q)
  | _, _, e, .lst (ds := ds) hs r, h => by
    unfold D.py at h
    cases q : D.pys ds with
    | none => rw [q] at h; cases h
    | some es => rw [q] at h; cases h; exact .lst (.inl (.inl hs)) (IsL.dp r q)
  | _, _, _, .dct _ _, h => by cases h
  | _, _, _, .fn _, h => by cases h
  | _, _, _, .scr _, h => by cases h
theorem IsL.dp : ∀ {d : List D} {v : List V} {e : List PyData}, IsL K ad H d v → D.pys d = some e → DpAll K H v e
  | _, _, _, .nil, h => by cases h; exact .nil
  | _, _, e, .cons (d := d) (ds := ds) a r, h => by
    unfold D.pys at h
    cases q : d.py with
    | none => rw [q] at h; cases h
    | some x =>
      cases q2 : D.pys ds with
      | none => rw [q, q2] at h; cases h
      | some xs => rw [q, q2] at h; cases h; exact .cons (Is.dp a q) (IsL.dp r q2)
end
end
/-- both may be compared -/
def dEq : D → D → Option Bool := fun a b => match a.py, b.py with
  | some x, some y => if SeqAt.shaped x = true ∧ SeqAt.shaped y = true then some (PyData.eqv x y) else none
  | _, _ => none
def dEqs (n : Bool) : List D → Option D
  | [a, b] => (dEq a b).map fun k => .bl (k != n)
  | _ => none
def pEq : List O → Option O := fun os => (dEqs false (O.toDs os)).map O.fz
def pNe : List O → Option O := fun os => (dEqs true (O.toDs os)).map O.fz
section
variable {X : Cx} {ad : Nat → Addr}
theorem dEq_core {H : Hp} {a b : D} {v u : V} {k : Bool} (ra : Is X.K ad H a v) (rb : Is X.K ad H b u) (e : dEq a b = some k) : ∃ x y, Dp X.K H v x ∧ Dp X.K H u y ∧ SeqAt.shaped x = true ∧ SeqAt.shaped y = true ∧ PyData.eqv x y = k := by
  unfold dEq at e
  split at e
  · next x y h1 h2 =>
    split at e
    · next hs => cases e; exact ⟨x, y, ra.dp h1, rb.dp h2, hs.1, hs.2, rfl⟩
    · cases e
  · cases e
theorem k_eq : Prm X ad (r2 (rEqD X.K)) pEq := by
  refine prm_rd fun H ds vs d Q r e q => ?_
  unfold dEqs at e
  split at e
  · next a b =>
    cases r with
    | cons ra r => cases r with
      | cons rb r =>
        cases r
        cases hk : dEq a b with
        | none => rw [hk] at e; cases e
        | some k =>
          rw [hk] at e; cases e
          obtain ⟨x, y, h1, h2, h3, h4, h5⟩ := dEq_core ra rb hk
          refine ⟨_, _, rfl, x, y, h1, h2, h3, h4, ?_⟩
          rw [h5]
          have := q (.bl k) fun F => by simpa using Is.bl (K := X.K) (ad := ad) (H := F) k
          exact this
  · cases e
theorem k_ne : Prm X ad (r2 (rNeD X.K)) pNe := by
  refine prm_rd fun H ds vs d Q r e q => ?_
  unfold dEqs at e
  split at e
  · next a b =>
    cases r with
    | cons ra r => cases r with
      | cons rb r =>
        cases r
        cases hk : dEq a b with
        | none => rw [hk] at e; cases e
        | some k =>
          rw [hk] at e; cases e
          obtain ⟨x, y, h1, h2, h3, h4, h5⟩ := dEq_core ra rb hk
          refine ⟨_, _, rfl, x, y, h1, h2, h3, h4, ?_⟩
          rw [h5]
          have := q (.bl (!k)) fun F => by simpa using Is.bl (K := X.K) (ad := ad) (H := F) (!k)
          exact this
  · cases e
end

/-! ### + of texts, tuples, lists -/
def catS : List O → Option O
  | [.fz (.str s), .fz (.str t)] => if s.length + t.length ≤ sizeLine then some (.fz (.str (s ++ t))) else none
  | _ => none
def catT : List O → Option O
  | [.fz (.tup s), .fz (.tup t)] => if s.length + t.length ≤ sizeLine then some (.fz (.tup (s ++ t))) else none
  | _ => none
def catL : List O → Option O
  | [a, b] => match a.toD, b.toD with
    | .lst s, .lst t => if s.length + t.length ≤ sizeLine then some (.lst ((s ++ t).map O.fz)) else none
    | _, _ => none
  | _ => none
def pAdd : List O → Option O := orO pAddI (orO catS (orO catT catL))
theorem str_append (s t : List Nat) : (⟨s.toArray⟩ : PySem.Str) ++ (⟨t.toArray⟩ : PySem.Str) = ⟨(s ++ t).toArray⟩ := by
  show PySem.Str.mk (s.toArray ++ t.toArray) = _
  simp
section
variable {X : Cx} {ad : Nat → Addr}
theorem k_catS : Prm X ad (r2 fun x y H Q => ∃ i j, x = .str i ∧ y = .str j ∧ i.length + j.length ≤ sizeLine ∧ Q (.str (i ++ j)) H) catS := by
  refine ⟨fun F H os vs E σ f Q ok hl q => ?_⟩
  rcases hg : catS os with _ | o
  · rw [hg] at q; exact q.elim
  rw [hg] at q
  unfold catS at hg
  split at hg
  · next s t =>
    match vs, hl, ok with
    | [v, u], _, ok =>
      have r := ok.isL (os := [.fz (.str s), .fz (.str t)]) (vs := [v, u]) rfl
      obtain ⟨f2, o2, s2⟩ := ok.rest (os := [.fz (.str s), .fz (.str t)]) (vs := [v, u]) rfl
      simp only [O.toDs, O.toD] at r
      cases r with
      | cons r1 r => cases r with
        | cons r2 r =>
          cases r; cases r1; cases r2
          split at hg
          · next hh =>
            cases hg
            refine ⟨_, _, rfl, _, _, rfl, rfl, by simpa [PySem.Str.length] using hh, ?_⟩
            rw [str_append]
            exact q F H _ f2 s2 (o2.dat (.str _))
          · cases hg
  · cases hg
theorem k_catT : Prm X ad (r2 (rCatA X.K)) catT := by
  refine ⟨fun F H os vs E σ f Q ok hl q => ?_⟩
  rcases hg : catT os with _ | o
  · rw [hg] at q; exact q.elim
  rw [hg] at q
  unfold catT at hg
  split at hg
  · next s t =>
    match vs, hl, ok with
    | [v, u], _, ok =>
      have ok' : Ok X.K ad F H (some (.fz (.tup s)) :: some (.fz (.tup t)) :: E) (some v :: some u :: σ) f := ok
      have i1 := ok'.head
      obtain ⟨f1, o1, s1⟩ := ok'.tl'
      have i2 := o1.head
      obtain ⟨f2, o2, s2⟩ := o1.tl'
      cases i1 with
      | @tup a _ xs h1 l1 =>
        cases i2 with
        | @tup b _ ys h2 l2 =>
          split at hg
          · next hh =>
            cases hg
            have e1 := l1.length
            have e2 := l2.length
            refine ⟨_, _, rfl, a, b, xs, ys, rfl, rfl, Same.sqT ok.sub h1, Same.sqT ok.sub h2, by omega, fun hx => ?_, fun hx hy => ?_, fun hx hy p n => ?_⟩
            · subst hx
              cases l1
              exact q F H _ f2 (s1.trans s2) (o2.dat (.tup h2 l2))
            · subst hy
              cases l2
              rw [List.append_nil] at q
              exact q F H _ f2 (s1.trans s2) (o2.dat (.tup h1 l1))
            · obtain ⟨s3, o3⟩ := o2.newTup n (by rw [List.length_append]; omega) (l1.append l2)
              exact q _ _ _ f2 (s1.trans (s2.trans s3)) o3
          · cases hg
  · cases hg
theorem k_catL : Prm X ad (r2 rCat) catL := by
  refine ⟨fun F H os vs E σ f Q ok hl q => ?_⟩
  rcases hg : catL os with _ | o
  · rw [hg] at q; exact q.elim
  rw [hg] at q
  unfold catL at hg
  split at hg
  · next a b =>
    match vs, hl, ok with
    | [v, u], hl, ok =>
      obtain ⟨F1, f1, s1, o1, r1⟩ := Ok.freezeL (os := [a, b]) (vs := [v, u]) rfl ok
      simp only [O.toDs] at r1
      split at hg
      · next s t h1 h2 =>
        rw [h1, h2] at r1
        split at hg
        · next hh =>
          cases hg
          cases r1 with
          | cons i1 r => cases r with
            | cons i2 r =>
              cases i1 with
              | @lst _ _ xs h1 l1 =>
                cases i2 with
                | @lst _ _ ys h2 l2 =>
                  have e1 := l1.length
                  have e2 := l2.length
                  refine ⟨_, _, rfl, _, _, xs, ys, rfl, rfl, o1.sub _ _ h1, o1.sub _ _ h2, by omega, fun p n => ?_⟩
                  have o2 : Ok X.K ad F1 H (((s ++ t).map O.fz).map some ++ E) ((xs ++ ys).map some ++ σ) ([] ++ f1) :=
                    ⟨o1.sub, RepE.append (RepE.ofL (RepL.ofIs (l1.append l2))) o1.rep, by simpa using o1.nd, fun x hx => o1.nf x (by simpa using hx)⟩
                  obtain ⟨s3, o3⟩ := o2.newLst (P := []) (PS := []) (by simp [e1, e2]) n
                  exact q _ _ _ _ (s1.trans s3) o3
        · cases hg
      · cases hg
  · cases hg
def rAdd4 (K : PySem.W.Frag) : R2 := fun x y H Q => rI0 (fun i j => V.int (i + j)) x y H Q ∨ ((∃ i j, x = .str i ∧ y = .str j ∧ i.length + j.length ≤ sizeLine ∧ Q (.str (i ++ j)) H) ∨ (rCatA K x y H Q ∨ rCat x y H Q))
theorem o_add : OpR X (binaryOp .Add) (rAdd4 X.K) := op_add.or (op_add_str.or (op_catA.or op_cat))
theorem k_add : Prm X ad (r2 (rAdd4 X.K)) pAdd := k_addI.or (k_catS.or (k_catT.or k_catL))
end
end Mn

set_option Elab.async false
set_option linter.all false
set_option maxRecDepth 100000
set_option maxHeartbeats 4000000
namespace Mn
open PySem PySem.Spec PyProof.Rows L2

/-! ### statements -/
inductive Fl where
  | next (E : En) | ret (o : O) (E : En) | brk (E : En) | cont (E : En) | exc (c : Nat) (E : En) | bad
def R.fl {α : Type} (r : R α) (k : α → En → Fl) : Fl := match r with
  | .ok a E => k a E
  | .exc c E => .exc c E
  | .bad => .bad
def Fl.seq (r : Fl) (k : En → Fl) : Fl := match r with
  | .next E => k E
  | r => r
abbrev Ms := En → Fl
theorem fl_ok {α : Type} (a : α) (E : En) (k : α → En → Fl) : (R.ok a E).fl k = k a E := rfl
theorem seq_next (E : En) (k : En → Fl) : (Fl.next E).seq k = k E := rfl
theorem seq_ret (o : O) (E : En) (k : En → Fl) : (Fl.ret o E).seq k = .ret o E := rfl
theorem seq_brk (E : En) (k : En → Fl) : (Fl.brk E).seq k = .brk E := rfl
theorem seq_cont (E : En) (k : En → Fl) : (Fl.cont E).seq k = .cont E := rfl
theorem seq_exc (c : Nat) (E : En) (k : En → Fl) : (Fl.exc c E).seq k = .exc c E := rfl

/-- the slots of io hold what they held -/
def Pr (io : List Nat) (σ σ' : L2.St) : Prop := ∀ j ∈ io, σ'[j]? = σ[j]?
theorem Pr.refl {io : List Nat} {σ : L2.St} : Pr io σ σ := fun _ _ => rfl
theorem Pr.trans {io : List Nat} {σ σ1 σ2 : L2.St} (a : Pr io σ σ1) (b : Pr io σ1 σ2) : Pr io σ σ2 := fun j h => (b j h).trans (a j h)

section
variable (K : PySem.W.Frag) (ad : Nat → Addr) (W : WX) (io : List Nat)
def AftS (F H : Hp) (f : List Addr) (σ : L2.St) (r : Fl) (D : Ends) : Prop := match r with
  | .next E' => ∀ F' H' σ' f', Step F H f F' H' f' → Ok K ad F' H' E' σ' f' → Pr io σ σ' → D.nx σ' H'
  | .ret o E' => ∀ F' H' σ' v f', Step F H f F' H' f' → Ok K ad F' H' (some o :: E') (some v :: σ') f' → Pr io σ σ' → D.rt v H'
  | .brk E' => ∀ F' H' σ' f', Step F H f F' H' f' → Ok K ad F' H' E' σ' f' → Pr io σ σ' → D.bk σ' H'
  | .cont E' => ∀ F' H' σ' f', Step F H f F' H' f' → Ok K ad F' H' E' σ' f' → Pr io σ σ' → D.ct σ' H'
  | .exc c E' => ∀ F' H' σ' f', Step F H f F' H' f' → Ok K ad F' H' E' σ' f' → W (.ref (ad c)) none σ' H'
  | .bad => False
end
structure SS (X : Cx) (ad : Nat → Addr) (W : WX) (io : List Nat) (st : Stmt) (m : Ms) : Prop where
  ex : ∃ ts, PS X st ts ∧ ∀ F H E σ f D, Ok X.K ad F H E σ f → AftS X.K ad W io F H f σ (m E) D → ts D σ H
structure SSs (X : Cx) (ad : Nat → Addr) (W : WX) (io : List Nat) (st : List Stmt) (m : Ms) : Prop where
  ex : ∃ ts, PSs X st ts ∧ ∀ F H E σ f D, Ok X.K ad F H E σ f → AftS X.K ad W io F H f σ (m E) D → ts D σ H
/-- only the slots sl differ -/
def Df (sl : List Nat) (σ σ' : L2.St) : Prop := σ'.length = σ.length ∧ ∀ j, j ∉ sl → σ'[j]? = σ[j]?
theorem Df.refl {sl : List Nat} {σ : L2.St} : Df sl σ σ := ⟨rfl, fun _ _ => rfl⟩
theorem Df.trans {sl tl : List Nat} {σ σ1 σ2 : L2.St} (a : Df sl σ σ1) (b : Df tl σ1 σ2) : Df (sl ++ tl) σ σ2 := ⟨b.1.trans a.1, fun j h => (b.2 j fun q => h (List.mem_append_right _ q)).trans (a.2 j fun q => h (List.mem_append_left _ q))⟩
theorem Df.pr {sl : List Nat} {io : List Nat} {σ σ1 : L2.St} (a : Df sl σ σ1) (h : ∀ j ∈ io, j ∉ sl) : Pr io σ σ1 := fun j q => a.2 j (h j q)
/-- a target -/
abbrev Mt := O → En → R Unit
structure SG (X : Cx) (ad : Nat → Addr) (W : WX) (sl : List Nat) (tg : Expr) (m : Mt) : Prop where
  ex : ∃ g, PG X tg g ∧ ∀ F H E σ f o v Q, Ok X.K ad F H (some o :: E) (some v :: σ) f →
    (match m o E with
      | .ok _ E' => ∀ F' H' σ' f', Step F H f F' H' f' → Ok X.K ad F' H' E' σ' f' → Df sl σ σ' → Q σ' H'
      | .exc c E' => ∀ F' H' f', Step F H f F' H' f' → Ok X.K ad F' H' E' σ f' → W (.ref (ad c)) none σ H'
      | .bad => False) → g v σ H Q

section
variable {K : PySem.W.Frag} {ad : Nat → Addr} {W : WX} {io : List Nat} {F H F1 H1 : Hp} {f f1 : List Addr} {σ σ1 : L2.St}
theorem AftS.step {r : Fl} {D : Ends} (a : AftS K ad W io F H f σ r D) (st : Step F H f F1 H1 f1) (p : Pr io σ σ1) : AftS K ad W io F1 H1 f1 σ1 r D := by
  cases r with
  | next E => exact fun F' H' σ' f' s o q => a F' H' σ' f' (st.trans s) o (p.trans q)
  | ret v E => exact fun F' H' σ' v f' s o q => a F' H' σ' v f' (st.trans s) o (p.trans q)
  | brk E => exact fun F' H' σ' f' s o q => a F' H' σ' f' (st.trans s) o (p.trans q)
  | cont E => exact fun F' H' σ' f' s o q => a F' H' σ' f' (st.trans s) o (p.trans q)
  | exc c E => exact fun F' H' σ' f' s o => a F' H' σ' f' (st.trans s) o
  | bad => exact a
theorem RepE.setS {H : Hp} : ∀ {E : En} {S : L2.St} {f f1 : List Addr} {i : Nat} {o : O} {v : V}, RepE K ad F H E S f → E[i]? = some none → Rep K ad F H o v f1 → ∃ g, RepE K ad F H (E.set i (some o)) (S.set i (some v)) g ∧ g.Perm (f1 ++ f)
  | _, _, _, _, _, _, _, .nil, e, _ => by simp at e
  | _, _, _, _, 0, _, _, .skip r, e, q => ⟨_, .put q r, .refl _⟩
  | _, _, _, _, i + 1, o, v, .skip r, e, q => by
    obtain ⟨g, a, b⟩ := RepE.setS (i := i) r (by simpa using e) q
    exact ⟨g, .skip a, b⟩
  | _, _, _, _, 0, _, _, .put h r, e, q => by simp at e
  | _, _, _, f1, i + 1, o, v, .put (f := f) h r, e, q => by
    obtain ⟨g, a, b⟩ := RepE.setS (i := i) r (by simpa using e) q
    refine ⟨_, .put h a, (List.Perm.append_left _ b).trans ?_⟩
    rw [← List.append_assoc, ← List.append_assoc]
    exact List.Perm.append_right _ List.perm_append_comm
/-- x = the value in front -/
theorem Ok.assign {E : En} {o : O} {v : V} (i : Nat) (ok : Ok K ad F H (some o :: E) (some v :: σ) f) : ∃ g, Ok K ad F H (E.set i (some o)) (σ.set i (some v)) g ∧ ∀ x ∈ g, x ∈ f := by
  obtain ⟨f2, ok2, ms, k⟩ := Ok.frame' (P := [some o]) (PS := [some v]) rfl ok
  obtain ⟨f3, ok3, ms3⟩ := ok2.forget i
  obtain ⟨g, ok4, st⟩ := k (Step.perm ms3) ok3
  have ok4 : Ok K ad F H (some o :: E.set i none) (some v :: σ) g := ok4
  have hl := ok2.rep.length
  have sub : ∀ x ∈ g, x ∈ f := fun x hx => by
    rcases st.n x hx with q | q
    · exact q
    · obtain ⟨u, e⟩ := ok4.rep.trk x hx
      rw [e] at q; cases q
  have r := ok4.rep
  cases r with
  | put q r =>
    by_cases hi : i < E.length
    · obtain ⟨g2, a, b⟩ := r.setS (i := i) (o := o) (v := v) (by simp [hi]) q
      rw [List.set_set] at a
      exact ⟨g2, ⟨ok4.sub, a, b.nodup_iff.mpr ok4.nd, fun x hx => ok4.nf x (b.mem_iff.mp hx)⟩, fun x hx => sub x (b.mem_iff.mp hx)⟩
    · have e1 : E.set i (some o) = E.set i none := by rw [List.set_eq_of_length_le (by omega), List.set_eq_of_length_le (by omega)]
      have e2 : σ.set i (some v) = σ := List.set_eq_of_length_le (by omega)
      obtain ⟨g3, a, b⟩ := ok4.tl
      rw [e1, e2]
      exact ⟨g3, a, fun x hx => sub x (b x hx)⟩
end

def mDone : Ms := fun E => .next E
def mSeq (a b : Ms) : Ms := fun E => (a E).seq b
def mRet (m : M O) : Ms := fun E => (m E).fl fun o E1 => .ret o E1
def mRetN : Ms := fun E => .ret (.fz .non) E
def mDrop (m : M O) : Ms := fun E => (m E).fl fun _ E1 => .next E1
def mIf (c : M Bool) (a b : Ms) : Ms := fun E => (c E).fl fun k E1 => if k then a E1 else b E1
def mAsg (t : Mt) (m : M O) : Ms := fun E => (m E).fl fun o E1 => (t o E1).fl fun _ E2 => .next E2
def mBrk : Ms := fun E => .brk E
def mCont : Ms := fun E => .cont E
def tName (i : Nat) : Mt := fun o E => .ok () (E.set i (some o))

section
variable {X : Cx} {ad : Nat → Addr} {W : WX} {io : List Nat} {st : Stmt} {sts : List Stmt} {a b : Ms} {e tg : Expr} {m : M O} {pos : Pos} {t : Mt}
theorem z_nil : SSs X ad W io [] mDone := ⟨_, pss_nil, fun F H E σ f D ok q => q F H σ f (Step.refl _ _ _) ok .refl⟩
theorem z_one (h : SS X ad W io st a) : SSs X ad W io [st] a := by
  obtain ⟨ts, p, q⟩ := h.ex
  exact ⟨ts, pss_one p, q⟩
theorem z_cons (h : SS X ad W io st a) (hr : SSs X ad W io sts b) : SSs X ad W io (st :: sts) (mSeq a b) := by
  obtain ⟨ts, p, q⟩ := h.ex
  obtain ⟨us, pu, qu⟩ := hr.ex
  refine ⟨_, pss_cons p pu, fun F H E σ f D ok z => q F H E σ f _ ok ?_⟩
  unfold mSeq at z
  cases hm : a E with
  | next E1 => rw [hm, seq_next] at z; exact fun F1 H1 σ1 f1 s1 o1 p1 => qu F1 H1 E1 σ1 f1 D o1 (AftS.step z s1 p1)
  | ret v E1 => rw [hm] at z; exact z
  | brk E1 => rw [hm] at z; exact z
  | cont E1 => rw [hm] at z; exact z
  | exc c E1 => rw [hm] at z; exact z
  | bad => rw [hm] at z; exact z
theorem z_ret (he : SE X ad W e m) : SS X ad W io (.Return (some e) pos) (mRet m) := by
  obtain ⟨te, p, q⟩ := he.ex
  refine ⟨_, ps_ret p, fun F H E σ f D ok z => q F H E σ f _ ok ?_⟩
  unfold mRet at z
  cases hm : m E with
  | ok o E1 => rw [hm] at z; exact fun F' H' v f' s o => z F' H' σ v f' s o .refl
  | exc c E1 => rw [hm] at z; exact fun F' H' f' s o => z F' H' σ f' s o
  | bad => rw [hm] at z; exact z
theorem z_retN : SS X ad W io (.Return none pos) mRetN := ⟨_, ps_retN, fun F H E σ f D ok z => z F H σ _ f (Step.refl _ _ _) (ok.dat .non) .refl⟩
theorem z_pass : SS X ad W io (.Pass pos) mDone := ⟨_, ps_pass, fun F H E σ f D ok q => q F H σ f (Step.refl _ _ _) ok .refl⟩
theorem z_brk : SS X ad W io (.Break pos) mBrk := ⟨_, ps_break, fun F H E σ f D ok q => q F H σ f (Step.refl _ _ _) ok .refl⟩
theorem z_cont : SS X ad W io (.Continue pos) mCont := ⟨_, ps_continue, fun F H E σ f D ok q => q F H σ f (Step.refl _ _ _) ok .refl⟩
theorem z_expr (he : SE X ad W e m) (hs : swapsWith e none pos.line X.env = pure false := by rfl) : SS X ad W io (.Expr e pos) (mDrop m) := by
  obtain ⟨te, p, q⟩ := he.ex
  refine ⟨_, ps_expr p hs, fun F H E σ f D ok z => q F H E σ f _ ok ?_⟩
  unfold mDrop at z
  cases hm : m E with
  | ok o E1 =>
    rw [hm] at z
    intro F' H' v f' s o
    obtain ⟨g, o2, s2⟩ := o.tl'
    exact z F' H' σ g (s.trans s2) o2 .refl
  | exc c E1 => rw [hm] at z; exact fun F' H' f' s o => z F' H' σ f' s o
  | bad => rw [hm] at z; exact z
theorem z_if {c : Expr} {n : M Bool} {xs ys : List Stmt} (hc : ST X ad W c n) (ha : SSs X ad W io xs a) (hb : SSs X ad W io ys b) : SS X ad W io (.If c xs ys pos) (mIf n a b) := by
  obtain ⟨tc, pc, qc⟩ := hc.ex
  obtain ⟨ta, pa, qa⟩ := ha.ex
  obtain ⟨tb, pb, qb⟩ := hb.ex
  refine ⟨_, ps_if pc pa pb, fun F H E σ f D ok z => qc F H E σ f _ ok ?_⟩
  unfold mIf at z
  cases hm : n E with
  | ok k E1 =>
    rw [hm, fl_ok] at z
    intro F1 H1 f1 s1 o1
    cases k with
    | true => exact iteT (qa F1 H1 E1 σ f1 D o1 (AftS.step z s1 .refl))
    | false => exact iteF (qb F1 H1 E1 σ f1 D o1 (AftS.step z s1 .refl))
  | exc c E1 => rw [hm] at z; exact fun F' H' f' s o => z F' H' σ f' s o
  | bad => rw [hm] at z; exact z
theorem asg_core {te : TE} {g : TG} {sl : List Nat} (h0 : ∀ j ∈ io, j ∉ sl) (q : ∀ F H E σ f Q, Ok X.K ad F H E σ f → Aft X.K ad W [] [] F H f σ (m E) Q → te σ H Q)
    (qg : ∀ F H E σ f o v Q, Ok X.K ad F H (some o :: E) (some v :: σ) f →
    (match t o E with
      | .ok _ E' => ∀ F' H' σ' f', Step F H f F' H' f' → Ok X.K ad F' H' E' σ' f' → Df sl σ σ' → Q σ' H'
      | .exc c E' => ∀ F' H' f', Step F H f F' H' f' → Ok X.K ad F' H' E' σ f' → W (.ref (ad c)) none σ H'
      | .bad => False) → g v σ H Q) : ∀ F H E σ f D, Ok X.K ad F H E σ f → AftS X.K ad W io F H f σ (mAsg t m E) D → tAsg te g D σ H := by
  intro F H E σ f D ok z
  refine q F H E σ f _ ok ?_
  unfold mAsg at z
  cases hm : m E with
  | ok o E1 =>
    rw [hm, fl_ok] at z
    intro F1 H1 v f1 s1 o1
    refine qg F1 H1 E1 σ f1 o v D.nx o1 ?_
    cases ht : t o E1 with
    | ok u E2 => rw [ht] at z; exact fun F' H' σ' f' s o p => z F' H' σ' f' (s1.trans s) o (p.pr h0)
    | exc c E2 => rw [ht] at z; exact fun F' H' f' s o => z F' H' σ f' (s1.trans s) o
    | bad => rw [ht] at z; exact z
  | exc c E1 => rw [hm] at z; exact fun F' H' f' s o => z F' H' σ f' s o
  | bad => rw [hm] at z; exact z
theorem z_asg {sl : List Nat} (he : SE X ad W e m) (hg : SG X ad W sl tg t) (h0 : ∀ j ∈ io, j ∉ sl := by decide) (hs : swapsWithSole [tg] e pos.line X.env = pure false := by rfl) (hw : swappedStores [tg] e X.env = pure none := by rfl)
    (h1 : (assignEach [tg] X.env).map (·.2) = [assign tg X.env] := by rfl) : SS X ad W io (.Assign [tg] e pos) (mAsg t m) := by
  obtain ⟨te, p, q⟩ := he.ex
  obtain ⟨g, pg, qg⟩ := hg.ex
  exact ⟨_, ps_asg p pg hs hw h1, asg_core h0 q qg⟩
theorem g_name (i : Nat) {x : Str} (hN : X.N.Nodup) (hi : X.N[i]? = some x := by rfl) (hx : Loc X.env.scope x := by first | exact Or.inl rfl | exact Or.inr rfl)
    (hf : X.fn x = true ∨ X.env.scope.names.lookup x = some .local := by first | exact .inl rfl | exact .inr rfl) : SG X ad W [i] (.Name x pos) (tName i) := by
  refine ⟨_, pg_name hN hi hx hf, fun F H E σ f o v Q ok q => ?_⟩
  obtain ⟨g, o2, ms⟩ := ok.assign i
  refine q F H _ g (Step.perm ms) o2 ⟨by simp, fun j h => ?_⟩
  rw [List.getElem?_set_ne fun e => h (by simp [e])]
end

/-! ### unpacking -/
def tGo : List Mt → List D → En → Option En
  | [], [], E => some E
  | t :: ts, d :: ds, E => match t (.fz d) E with
    | .ok _ E1 => tGo ts ds E1
    | _ => none
  | _, _, _ => none
def tTup (ts : List Mt) : Mt := fun o E => match o with
  | .fz (.tup ds) => match tGo ts ds E with
    | some E' => .ok () E'
    | none => .bad
  | _ => .bad
theorem tGo_len : ∀ {ts : List Mt} {ds : List D} {E E' : En}, tGo ts ds E = some E' → ds.length = ts.length
  | [], [], _, _, _ => rfl
  | [], _ :: _, _, _, h => by cases h
  | _ :: _, [], _, _, h => by cases h
  | t :: ts, d :: ds, E, E', h => by
    unfold tGo at h
    split at h
    · exact congrArg (· + 1) (tGo_len h)
    · cases h
structure SGs (X : Cx) (ad : Nat → Addr) (W : WX) (sl : List Nat) (es : List Expr) (ts : List Mt) : Prop where
  ex : ∃ g, PGs X es g ∧ ∀ F H E σ f ds vs E' Q, Ok X.K ad F H E σ f → IsL X.K ad F ds vs → tGo ts ds E = some E' →
    (∀ F' H' σ' f', Step F H f F' H' f' → Ok X.K ad F' H' E' σ' f' → Df sl σ σ' → Q σ' H') → g vs σ H Q
section
variable {X : Cx} {ad : Nat → Addr} {W : WX} {sl tl : List Nat} {e : Expr} {es : List Expr} {pos : Pos} {t : Mt} {ts : List Mt}
theorem gs_nil : SGs X ad W [] [] [] := ⟨_, pgs_nil, fun F H E σ f ds vs E' Q ok r h q => by
  cases r with
  | nil => cases h; exact ⟨rfl, q F H σ f (Step.refl _ _ _) ok .refl⟩
  | cons _ _ => cases h⟩
theorem gs_cons (h : SG X ad W sl e t) (hr : SGs X ad W tl es ts) (hs : (assignEach (e :: es) X.env).map (·.2) = assign e X.env :: (assignEach es X.env).map (·.2) := by rfl) : SGs X ad W (sl ++ tl) (e :: es) (t :: ts) := by
  obtain ⟨g, pg, qg⟩ := h.ex
  obtain ⟨u, pu, qu⟩ := hr.ex
  refine ⟨_, pgs_cons pg pu hs, fun F H E σ f ds vs E' Q ok r h q => ?_⟩
  cases r with
  | nil => cases h
  | @cons d v ds vs a r =>
    refine ⟨_, _, rfl, qg F H E σ f (.fz d) v _ (ok.dat a) ?_⟩
    unfold tGo at h
    cases ht : t (.fz d) E with
    | ok w E1 =>
      rw [ht] at h
      intro F1 H1 σ1 f1 s1 o1 p1
      exact qu F1 H1 E1 σ1 f1 ds vs E' Q o1 (r.mono s1.f) h fun F' H' σ' f' s o p => q F' H' σ' f' (s1.trans s) o (p1.trans p)
    | exc c E1 => rw [ht] at h; cases h
    | bad => rw [ht] at h; cases h
theorem g_tup {k : Nat} (hc : X.calm = true) (h : SGs X ad W sl es ts) (hn : (assignEach es X.env).length = ts.length := by rfl) (hst : (assignEach es X.env).findIdx? (·.1) = none := by rfl) : SG X ad W sl (.Tuple es k pos) (tTup ts) := by
  obtain ⟨g, pg, qg⟩ := h.ex
  refine ⟨_, pg_tup hc pg hn hst, fun F H E σ f o v Q ok q => ?_⟩
  unfold tTup at q
  cases o with
  | fz d =>
    cases d with
    | tup ds =>
      have hI := ok.head
      cases hI with
      | @tup a _ xs hs r =>
        obtain ⟨f2, o2, s2⟩ := ok.tl'
        cases hg : tGo ts ds E with
        | none => simp only [hg] at q
        | some E' =>
          simp only [hg] at q
          exact ⟨a, xs, rfl, Same.sqT ok.sub hs, by rw [← r.length]; exact tGo_len hg, qg F H E σ f2 ds xs E' Q o2 r hg fun F' H' σ' f' s o p => q F' H' σ' f' (s2.trans s) o p⟩
    | _ => exact q.elim
  | _ => exact q.elim
end

/-! ### place[i] = value: a list, a dict of this frame's -/
def kOf : D → Option KK
  | .int i => some (.inl i)
  | .str s => some (.inr s)
  | _ => none
def putO : List (KK × O) → KK → O → List (KK × O)
  | [], k, o => [(k, o)]
  | (j, x) :: r, k, o => if j = k then (j, o) :: r else (j, x) :: putO r k o
def setO (o : O) (k : D) (x : O) : Option O := match o with
  | .lst os => match k with
    | .int z => match ixN os.length z with
      | some j => some (.lst (os.set j x))
      | none => none
    | _ => none
  | .dct kvs => match kOf k with
    | some j => if kvs.length < sizeLine then some (.dct (putO kvs j x)) else none
    | none => none
  | _ => none
/-- the i-th name's object at an index -/
def tSub (i : Nat) (mk : M O) : Mt := fun x E => match E[i]? with
  | some (some _) => (mk E).bind fun k E1 => match E1[i]? with
    | some (some o) => match setO o k.toD x with
      | some o' => .ok () (E1.set i (some o'))
      | none => .bad
    | _ => .bad
  | _ => .bad
section
variable {K : PySem.W.Frag} {ad : Nat → Addr} {F H : Hp} {f : List Addr} {E : En} {S : L2.St}
theorem RepL.set : ∀ {os : List O} {vs : List V} {fp fx : List Addr} {j : Nat} {x : O} {v : V}, RepL K ad F H os vs fp → Rep K ad F H x v fx → ∃ g, RepL K ad F H (os.set j x) (vs.set j v) g ∧ ∃ d, (d ++ g).Perm (fx ++ fp) 
  | _, _, _, fx, _, _, _, .nil, q => ⟨[], .nil, fx, by simp⟩
  | _, _, _, fx, 0, _, _, .cons (f := f1) (g := g1) a r, q => ⟨_, .cons q r, f1, by
    rw [← List.append_assoc, ← List.append_assoc]
    exact List.Perm.append_right _ List.perm_append_comm⟩
  | _, _, _, fx, j + 1, x, v, .cons (f := f1) a r, q => by
    obtain ⟨g, a', d, p⟩ := RepL.set (j := j) r q
    refine ⟨_, .cons a a', d, ?_⟩
    have h1 : (d ++ (f1 ++ g)).Perm (f1 ++ (d ++ g)) := by
      rw [← List.append_assoc, ← List.append_assoc]
      exact List.Perm.append_right _ List.perm_append_comm
    refine h1.trans ((List.Perm.append_left f1 p).trans ?_)
    rw [← List.append_assoc, ← List.append_assoc]
    exact List.Perm.append_right _ List.perm_append_comm
theorem tk_inj {a b : KK} (h : tk a = tk b) : a = b := by
  cases a with
  | inl i => cases b with
    | inl j => cases h; rfl
    | inr j => cases h
  | inr i => cases b with
    | inl j => cases h
    | inr j =>
      have e : (⟨i.toArray⟩ : PySem.Str) = ⟨j.toArray⟩ := Sum.inr.inj h
      have e2 : i.toArray = j.toArray := congrArg PySem.Str.cps e
      have : i = j := by simpa using e2
      rw [this]
end
end Mn

set_option Elab.async false
set_option linter.all false
set_option maxRecDepth 100000
set_option maxHeartbeats 4000000
namespace Mn
open PySem PySem.Spec PyProof.Rows L2

/-! ### writing to an object of this frame's own -/
section
variable {K : PySem.W.Frag} {ad : Nat → Addr} {F H : Hp} {f : List Addr} {E P : En} {S PS : L2.St}
/-- the object at a, held by the name in front, becomes n; P is used up; res comes of it -/
theorem Ok.write {o o' res : O} {a : Addr} {v : V} {fo fx f2 fo' fr : List Addr} {n : HO} (sub : Same F H) (nd : ((a :: fo) ++ (fx ++ f2)).Nodup) (nf : ∀ z ∈ (a :: fo) ++ (fx ++ f2), F z = none)
    (ta : H a ≠ none) (rE : RepE K ad F H E S f2) (tr : ∀ z ∈ fo ++ fx, ∃ u, H z = some u) (rr : Rep K ad F H res v fr) (nd' : (fr ++ fo').Nodup) (ms : ∀ z ∈ fr ++ fo', z ∈ fo ++ fx)
    (rN : ∀ H', (∀ z u, z ≠ a → H z = some u → H' z = some u) → H' a = some n → Rep K ad F H' o' (.ref a) (a :: fo')) :
    Step F H ((a :: fo) ++ (fx ++ f2)) F (upd H a n) (fr ++ ((a :: fo') ++ f2)) ∧ Ok K ad F (upd H a n) (some res :: some o' :: E) (some v :: some (.ref a) :: S) (fr ++ ((a :: fo') ++ f2)) := by
  have na : F a = none := nf a (by simp)
  have nda := List.nodup_append.mp nd
  have nd1 := List.nodup_cons.mp nda.1
  have nd2 := List.nodup_append.mp nda.2.1
  have a_fo : a ∉ fo := nd1.1
  have a_r : a ∉ fx ++ f2 := fun h => nda.2.2 a List.mem_cons_self a h rfl
  have a_x : ∀ z ∈ fo ++ fx, z ≠ a := fun z hz e => by
    subst e
    rcases List.mem_append.mp hz with q | q
    · exact a_fo q
    · exact a_r (List.mem_append_left _ q)
  have a_2 : ∀ z ∈ f2, z ≠ a := fun z hz e => by subst e; exact a_r (List.mem_append_right _ hz)
  have x_2 : ∀ z ∈ fo ++ fx, z ∉ f2 := fun z hz h2 => by
    rcases List.mem_append.mp hz with q | q
    · exact nda.2.2 z (List.mem_cons_of_mem _ q) z (List.mem_append_right _ h2) rfl
    · exact nd2.2.2 z q z h2 rfl
  have nd3 := List.nodup_append.mp nd'
  have keep : ∀ z u, z ≠ a → H z = some u → upd H a n z = some u := fun z u hz e => by rw [upd_ne hz]; exact e
  have subset : ∀ z ∈ fr ++ ((a :: fo') ++ f2), z ∈ (a :: fo) ++ (fx ++ f2) := fun z hz => by
    rcases List.mem_append.mp hz with q | q
    · have := ms z (List.mem_append_left _ q)
      rcases List.mem_append.mp this with q | q
      · exact List.mem_append_left _ (List.mem_cons_of_mem _ q)
      · exact List.mem_append_right _ (List.mem_append_left _ q)
    · rcases List.mem_append.mp q with q | q
      · rcases List.mem_cons.mp q with rfl | q
        · exact List.mem_append_left _ List.mem_cons_self
        · have := ms z (List.mem_append_right _ q)
          rcases List.mem_append.mp this with q | q
          · exact List.mem_append_left _ (List.mem_cons_of_mem _ q)
          · exact List.mem_append_right _ (List.mem_append_left _ q)
      · exact List.mem_append_right _ (List.mem_append_right _ q)
  refine ⟨⟨Same.refl _, fun b u e hb => ?_, fun b u e hb h => h, fun b e => ?_, fun z hz => .inl (subset z hz)⟩, ⟨fun b u e => ?_, ?_, ?_, fun z hz => nf z (subset z hz)⟩⟩
  · exact keep b u (fun z => hb (by subst z; simp)) e
  · by_cases hb : b = a
    · subst hb; rw [upd_same] at e; cases e
    · rw [upd_ne hb] at e; exact e
  · have hb : b ≠ a := fun z => by subst z; rw [na] at e; cases e
    exact keep b u hb (sub b u e)
  · refine .put (rr.mono (Same.refl _) fun z hz u e => keep z u (a_x z (ms z (List.mem_append_left _ hz))) e) (.put (rN _ keep upd_same) (rE.mono (Same.refl _) fun z hz u e => keep z u (a_2 z hz) e))
  · refine List.nodup_append.mpr ⟨nd3.1, List.nodup_append.mpr ⟨List.nodup_cons.mpr ⟨fun h => a_x a (ms a (List.mem_append_right _ h)) rfl, nd3.2.1⟩, nd2.2.1, fun x hx y hy e => ?_⟩, fun x hx y hy e => ?_⟩
    · subst e
      rcases List.mem_cons.mp hx with rfl | hx
      · exact a_2 _ hy rfl
      · exact x_2 x (ms x (List.mem_append_right _ hx)) hy
    · subst e
      rcases List.mem_append.mp hy with q | q
      · rcases List.mem_cons.mp q with rfl | q
        · exact a_x _ (ms _ (List.mem_append_left _ hx)) rfl
        · exact nd3.2.2 x hx x q rfl
      · exact x_2 x (ms x (List.mem_append_left _ hx)) q
end

/-! ### methods that change the i-th name's list -/
def mMeth (u : O → List O → Option (O × O)) (i : Nat) (vals : M (List O)) : M O := fun E => match E[i]? with
  | some (some (.lst _)) => (vals E).bind fun vs E1 => match E1[i]? with
    | some (some o) => match u o vs with
      | some (res, o') => .ok res (E1.set i (some o'))
      | none => .bad
    | _ => .bad
  | _ => .bad
structure MPrm (X : Cx) (ad : Nat → Addr) (r : V → List V → Hp → VK → Prop) (u : O → List O → Option (O × O)) : Prop where
  ok : ∀ F H o os x vs E σ f res o' Q, Ok X.K ad F H (some o :: (os.map some ++ E)) (some x :: (vs.map some ++ σ)) f → vs.length = os.length → u o os = some (res, o') →
    (∀ F' H' v f', Step F H f F' H' f' → Ok X.K ad F' H' (some res :: some o' :: E) (some v :: some x :: σ) f' → Q v H') → r x vs H Q
section
variable {X : Cx} {ad : Nat → Addr} {W : WX} {e : Expr} {es : List Expr} {ms : M (List O)} {apos cpos : Pos}
theorem meth_core {ta : TA} {r : V → List V → Hp → VK → Prop} {u : O → List O → Option (O × O)} {i : Nat} (qa : ∀ F H E σ f Q, Ok X.K ad F H E σ f → AftL X.K ad W [] [] F H f σ (ms E) Q → ta σ H Q) (p : MPrm X ad r u) :
    ∀ F H E σ f Q, Ok X.K ad F H E σ f → Aft X.K ad W [] [] F H f σ (mMeth u i ms E) Q → ∃ v, σ[i]? = some (some v) ∧ tyV X.K "list" v H ∧ ta σ H fun xs H2 => r v xs H2 Q := by
  intro F H E σ f Q ok q
  unfold mMeth at q
  split at q
  · next os0 h0 =>
    obtain ⟨v, f1, f2, hvv, hrep, _⟩ := ok.rep.at h0
    refine ⟨v, hvv, ?_, ?_⟩
    · cases hrep with
      | lst h r => exact .inl ⟨rfl, _, .inl (.inl h)⟩
    · refine qa F H E σ f _ ok ?_
      cases hms : ms E with
      | bad => rw [hms] at q; exact q
      | exc c E' => rw [hms] at q; exact fun F' H' f' s o => q F' H' f' s o
      | ok os E1 =>
        rw [hms, bind_ok] at q
        intro F1 H1 vs f1 s1 l1 o1
        have o1 : Ok X.K ad F1 H1 (os.map some ++ E1) (vs.map some ++ σ) f1 := o1
        cases hE : E1[i]? with
        | none => rw [hE] at q; exact q.elim
        | some so =>
          cases so with
          | none => rw [hE] at q; exact q.elim
          | some s =>
            rw [hE] at q
            replace q : Aft X.K ad W [] [] F H f σ (match u s os with | some (res, o') => .ok res (E1.set i (some o')) | none => .bad) Q := q
            have hE2 : (os.map some ++ E1)[os.length + i]? = some (some s) := by
              rw [List.getElem?_append_right (by simp)]
              simpa using hE
            obtain ⟨v', g, hv', o2, hm2⟩ := o1.take hE2
            have hv2 : (vs.map some ++ σ)[os.length + i]? = σ[i]? := by
              rw [List.getElem?_append_right (by simp [l1])]
              simp [l1]
            rw [hv2, hvv] at hv'
            have e : v = v' := by simpa using hv'
            subst e
            have e2 : (os.map some ++ E1).set (os.length + i) none = os.map some ++ E1.set i none := by
              rw [List.set_append_right _ _ (by simp)]
              simp
            rw [e2] at o2
            have e3 : (E1.set i none)[i]? = some none := by
              have := (List.getElem?_eq_some_iff.mp hE).1
              simp [List.getElem?_set, this]
            have sg : Step F1 H1 f1 F1 H1 g := Step.perm fun x hx => (hm2 x).mp hx
            cases hu : u s os with
            | none => rw [hu] at q; exact q.elim
            | some ro =>
              obtain ⟨res, s'⟩ := ro
              rw [hu] at q
              refine p.ok F1 H1 s os v vs (E1.set i none) σ g res s' Q o2 l1 hu ?_
              intro F' H' w f' st o'
              obtain ⟨f3, o3, ms3, k3⟩ := Ok.frame' (P := [some res]) (PS := [some w]) rfl o'
              obtain ⟨g2, o4, hm4⟩ := o3.putAt e3 hvv
              rw [List.set_set] at o4
              obtain ⟨g3, o5, s5⟩ := k3 (Step.perm fun x hx => (hm4 x).mp hx) o4
              exact q F' H' w g3 (s1.trans (sg.trans (st.trans s5))) o5
  · exact q.elim
theorem s_meth {x : Str} {p : Pos} {name : Str} {id : String} {r : V → List V → Hp → VK → Prop} {u : O → List O → Option (O × O)} (i : Nat) (slot : Slot "list" name id) (hty : typeOf (.builtin id) = pure (.type "method_descriptor")) (hm : MtR X id r) (pr : MPrm X ad r u)
    (hi : X.N[i]? = some x) (hv : Vis X.env.scope x) (ha : SA X ad W (e :: es) ms) (hd1 : (x == ("__debug__" : Str)) = false := by decide) (hcd : (x == ("__classdict__" : Str)) = false := by decide)
    (hbase : attributeBase (.Name x p) name X.env (eval (.Name x p) X.env) = eval (.Name x p) X.env := by rfl)
    (hfew : ((backTo cpos (starEach (e :: es) X.env)).all (fun x => !x.1) && (backToKw cpos (keywordEach [] X.env)).all (fun x => x.1.isSome)
      && decide ((e :: es).length + ([] : List Keyword).length + (if ([] : List Keyword).isEmpty then 0 else 1) < 30)) = true := by rfl)
    (hline : (apos.endLine == cpos.line) = true := by rfl) (hs : starEach (e :: es) X.env = (false, eval e X.env) :: starEach es X.env := by rfl) (hplain : (backTo cpos (starEach es X.env)).any (·.1) = false := by rfl) :
    SE X ad W (.Call (.Attribute (.Name x p) name apos) (e :: es) [] cpos) (mMeth u i ms) := by
  obtain ⟨ta, pa, qa⟩ := ha.ex
  exact ⟨_, pe_bm PySem.F.plainAttrs_list slot hty hm (pe_var hi hv hd1 hcd) pa hbase hfew hline hs hplain, meth_core qa pr⟩
theorem s_meth0 {x : Str} {p : Pos} {name : Str} {id : String} {r : V → List V → Hp → VK → Prop} {u : O → List O → Option (O × O)} (i : Nat) (slot : Slot "list" name id) (hty : typeOf (.builtin id) = pure (.type "method_descriptor")) (hm : MtR X id r) (pr : MPrm X ad r u)
    (hi : X.N[i]? = some x) (hv : Vis X.env.scope x) (hd1 : (x == ("__debug__" : Str)) = false := by decide) (hcd : (x == ("__classdict__" : Str)) = false := by decide)
    (hbase : attributeBase (.Name x p) name X.env (eval (.Name x p) X.env) = eval (.Name x p) X.env := by rfl) (hline : (apos.endLine == cpos.line) = true := by rfl) :
    SE X ad W (.Call (.Attribute (.Name x p) name apos) [] [] cpos) (mMeth u i mNil) := by
  refine ⟨_, pe_bm0 PySem.F.plainAttrs_list slot hty hm (pe_var hi hv hd1 hcd) hbase hline, fun F H E σ f Q ok q => ?_⟩
  obtain ⟨v, h1, h2, h3⟩ := meth_core (X := X) (ad := ad) (W := W) (ms := mNil) (ta := tNil) (fun F H E σ f Q ok (a : AftL X.K ad W [] [] F H f σ (.ok [] E) Q) => a F H [] f (Step.refl _ _ _) rfl ok) pr F H E σ f Q ok q
  exact ⟨v, h1, h2, h3⟩
end
section
variable {K : PySem.W.Frag} {ad : Nat → Addr} {F H : Hp} {f : List Addr} {E P : En} {S PS : L2.St}
/-- a list in front, taken apart -/
theorem Ok.lstParts {os : List O} {xs : List O} {vx : List V} {x : V} (ok : Ok K ad F H (some (.lst os) :: (xs.map some ++ E)) (some x :: (vx.map some ++ S)) f) (hl : vx.length = xs.length) :
    ∃ a vs fo fx f2, x = .ref a ∧ f = (a :: fo) ++ (fx ++ f2) ∧ H a = some (.lst vs) ∧ RepL K ad F H os vs fo ∧ RepL K ad F H xs vx fx ∧ RepE K ad F H E S f2 := by
  have r := ok.rep
  cases r with
  | put q r =>
    cases q with
    | @lst a _ vs fo h rl =>
      obtain ⟨fx, f2, rfl, r1, r2⟩ := RepE.split (by simp [hl]) r
      exact ⟨a, vs, fo, fx, f2, rfl, rfl, h, rl, RepE.toL r1, r2⟩
end
def uAppend : O → List O → Option (O × O)
  | .lst os, [x] => if os.length < sizeLine then some (.fz .non, .lst (os ++ [x])) else none
  | _, _ => none
def uExtend : O → List O → Option (O × O)
  | .lst os, [y] => match y.toD with
    | .lst ds => if os.length + ds.length ≤ sizeLine then some (.fz .non, .lst (os ++ ds.map O.fz)) else none
    | _ => none
  | _, _ => none
def uInsert : O → List O → Option (O × O)
  | .lst os, [.fz (.int i), x] => if os.length < sizeLine ∧ 0 ≤ i ∧ i < 2 ^ 63 then some (.fz .non, .lst (os.take i.toNat ++ [x] ++ os.drop i.toNat)) else none
  | _, _ => none
def uPop : O → List O → Option (O × O)
  | .lst os, [] => match os.getLast? with
    | some x => some (x, .lst os.dropLast)
    | none => none
  | _, _ => none
section
variable {X : Cx} {ad : Nat → Addr}
theorem RepL.tracked {K : PySem.W.Frag} {F H : Hp} {os xs : List O} {vs vx : List V} {fo fx : List Addr} (a : RepL K ad F H os vs fo) (b : RepL K ad F H xs vx fx) : ∀ z ∈ fo ++ fx, ∃ u, H z = some u := fun z hz => by
  rcases List.mem_append.mp hz with q | q
  · exact a.trk z q
  · exact b.trk z q
theorem nodup_mid {a : Addr} {fo fx f2 : List Addr} (nd : ((a :: fo) ++ (fx ++ f2)).Nodup) : (fo ++ fx).Nodup := by
  have h : (fo ++ fx).Sublist ((a :: fo) ++ (fx ++ f2)) := by
    refine List.Sublist.append (List.sublist_cons_self a fo) (List.sublist_append_left fx f2)
  exact nd.sublist h
theorem k_append : MPrm X ad rAppend uAppend := by
  refine ⟨fun F H o xs x vx E σ f res o' Q ok hl hu q => ?_⟩
  unfold uAppend at hu
  split at hu
  · next os y =>
    split at hu
    · next hh =>
      cases hu
      match vx, hl, ok with
      | [vy], hl, ok =>
        obtain ⟨a, vs, fo, fx, f2, rfl, rfl, h, rl, rx, rE⟩ := ok.lstParts hl
        have el := rl.length
        refine ⟨a, vs, vy, rfl, rfl, h, by omega, ?_⟩
        have w := Ok.write (n := .lst (vs ++ [vy])) (o := .lst os) (o' := .lst (os ++ [y])) (res := .fz .non) (v := .non) (fr := []) (fo' := fo ++ fx) ok.sub ok.nd ok.nf (by rw [h]; simp) rE (rl.tracked rx) (.fz .non)
          (by simpa using nodup_mid ok.nd) (fun z hz => by simpa using hz) fun H' kp ha => .lst ha ((rl.append rx).mono (Same.refl _) fun z hz u e => kp z u (fun e' => by
            subst e'
            have nda := List.nodup_append.mp ok.nd
            rcases List.mem_append.mp hz with m | m
            · exact (List.nodup_cons.mp nda.1).1 m
            · exact nda.2.2 z List.mem_cons_self z (List.mem_append_left _ m) rfl) e)
        exact q _ _ _ _ w.1 w.2
    · cases hu
  · cases hu
theorem not_a {a : Addr} {fo fx f2 : List Addr} (nd : ((a :: fo) ++ (fx ++ f2)).Nodup) : ∀ z ∈ fo ++ fx, z ≠ a := fun z hz e => by
  subst e
  have nda := List.nodup_append.mp nd
  rcases List.mem_append.mp hz with m | m
  · exact (List.nodup_cons.mp nda.1).1 m
  · exact nda.2.2 z List.mem_cons_self z (List.mem_append_left _ m) rfl
theorem RepL.take {K : PySem.W.Frag} {F H : Hp} : ∀ {os : List O} {vs : List V} {fo : List Addr} (n : Nat), RepL K ad F H os vs fo → ∃ g1 g2, fo = g1 ++ g2 ∧ RepL K ad F H (os.take n) (vs.take n) g1 ∧ RepL K ad F H (os.drop n) (vs.drop n) g2
  | _, _, fo, 0, r => ⟨[], fo, rfl, by simpa using .nil, by simpa using r⟩
  | _, _, _, n + 1, .nil => ⟨[], [], rfl, by simpa using .nil, by simpa using .nil⟩
  | _, _, _, n + 1, .cons (f := f1) h r => by
    obtain ⟨g1, g2, rfl, a, b⟩ := RepL.take n r
    exact ⟨f1 ++ g1, g2, by rw [List.append_assoc], by simpa using .cons h a, by simpa using b⟩
theorem k_insert : MPrm X ad (fun x vs H Q => ∃ (l : Addr) (xs : List V) (i : Int) (y : V), x = .ref l ∧ vs = [.int i, y] ∧ H l = some (.lst xs) ∧ xs.length < sizeLine ∧ 0 ≤ i ∧ i < 2 ^ 63 ∧
    Q .non (upd H l (.lst (xs.take i.toNat ++ [y] ++ xs.drop i.toNat)))) uInsert := by
  refine ⟨fun F H o xs x vx E σ f res o' Q ok hl hu q => ?_⟩
  unfold uInsert at hu
  split at hu
  · next os i y =>
    split at hu
    · next hh =>
      cases hu
      match vx, hl, ok with
      | [vi, vy], hl, ok =>
        obtain ⟨a, vs, fo, fx, f2, rfl, rfl, h, rl, rx, rE⟩ := ok.lstParts hl
        have el := rl.length
        have tr := rl.tracked rx
        cases rx with
        | @cons _ _ _ _ fi fy ri rx =>
          cases ri with
          | fz ri =>
            cases ri
            obtain ⟨g1, g2, rfl, r1, r2⟩ := rl.take i.toNat
            refine ⟨a, vs, i, vy, rfl, rfl, h, by omega, hh.2.1, hh.2.2, ?_⟩
            have pm : (g1 ++ fy ++ g2).Perm ((g1 ++ g2) ++ ([] ++ fy)) := by
              rw [List.append_assoc, List.append_assoc]
              exact List.Perm.append_left _ List.perm_append_comm
            have w := Ok.write (n := .lst (vs.take i.toNat ++ [vy] ++ vs.drop i.toNat)) (o := .lst os) (o' := .lst (os.take i.toNat ++ [y] ++ os.drop i.toNat)) (res := .fz .non) (v := .non) (fr := []) (fo' := g1 ++ fy ++ g2) ok.sub ok.nd ok.nf (by rw [h]; simp) rE tr (.fz .non)
              (by simpa using pm.nodup_iff.mpr (nodup_mid ok.nd)) (fun z hz => pm.mem_iff.mp (by simpa using hz)) fun H' kp ha => .lst ha (((r1.append rx).append r2).mono (Same.refl _) fun z hz u e => kp z u (not_a ok.nd z (pm.mem_iff.mp hz)) e)
            exact q _ _ _ _ w.1 w.2
    · cases hu
  · cases hu
theorem k_pop : MPrm X ad rPop uPop := by
  refine ⟨fun F H o xs x vx E σ f res o' Q ok hl hu q => ?_⟩
  unfold uPop at hu
  split at hu
  · next os =>
    split at hu
    · next y hy =>
      cases hu
      match vx, hl, ok with
      | [], hl, ok =>
        obtain ⟨a, vs, fo, fx, f2, rfl, rfl, h, rl, rx, rE⟩ := ok.lstParts hl
        have tr := rl.tracked rx
        cases rx
        have el := rl.length
        obtain ⟨g1, g2, rfl, r1, r2⟩ := rl.take (os.length - 1)
        obtain ⟨ys, hys⟩ := List.getLast?_eq_some_iff.mp hy
        have e1 : os.take (os.length - 1) = os.dropLast := by rw [List.dropLast_eq_take]
        have e2 : os.drop (os.length - 1) = [res] := by rw [hys]; simp
        have e3 : vs.take (os.length - 1) = vs.dropLast := by rw [List.dropLast_eq_take, el]
        rw [e1, e3] at r1
        rw [e2] at r2
        have hne : os.length ≠ 0 := by rw [hys]; simp
        cases hv : vs.drop (os.length - 1) with
        | nil => rw [hv] at r2; cases r2
        | cons vy t =>
          rw [hv] at r2
          cases r2 with
          | @cons _ _ _ _ fy ft ry rt =>
            cases rt
            have hget : vs[vs.length - 1]? = some vy := by
              have : vs[os.length - 1 + 0]? = some vy := by rw [← List.getElem?_drop, hv]; rfl
              rw [← el]
              simpa using this
            refine ⟨a, vs, vy, rfl, rfl, h, hget, ?_⟩
            have pm : (fy ++ g1).Perm ((g1 ++ (fy ++ [])) ++ []) := by
              simp only [List.append_nil]
              exact List.perm_append_comm
            have w := Ok.write (n := .lst vs.dropLast) (o := .lst os) (o' := .lst os.dropLast) (res := res) (v := vy) (fr := fy) (fo' := g1) ok.sub ok.nd ok.nf (by rw [h]; simp) rE tr ry
              (pm.nodup_iff.mpr (nodup_mid ok.nd)) (fun z hz => pm.mem_iff.mp hz) fun H' kp ha => .lst ha (r1.mono (Same.refl _) fun z hz u e => kp z u (not_a ok.nd z (pm.mem_iff.mp (List.mem_append_right _ hz))) e)
            exact q _ _ _ _ w.1 w.2
    · cases hu
  · cases hu
theorem k_extend : MPrm X ad rExtend uExtend := by
  refine ⟨fun F H o xs x vx E σ f res o' Q ok hl hu q => ?_⟩
  unfold uExtend at hu
  split at hu
  · next os y =>
    split at hu
    · next ds hds =>
      split at hu
      · next hh =>
        cases hu
        match vx, hl, ok with
        | [vy], hl, ok =>
          -- what is added is given free first
          obtain ⟨g0, ok0, ms0, k0⟩ := Ok.frame' (P := [some (.lst os)]) (PS := [some x]) rfl ok
          obtain ⟨F1, f1, s1, o1, hm1⟩ := Ok.freeze (o := y) (v := vy) ok0
          obtain ⟨g2, o2, s2⟩ := k0 s1 o1
          rw [hds] at o2
          obtain ⟨a, vs, fo, fx, f2, rfl, rfl, h, rl, rx, rE⟩ := Ok.lstParts (xs := [.fz (.lst ds)]) (vx := [vy]) o2 rfl
          have el := rl.length
          cases rx with
          | @cons _ _ _ _ fi fy ri rx =>
            cases rx
            cases ri with
            | fz ri =>
              cases ri with
              | @lst b _ zs hb rb =>
                have eb := rb.length
                refine ⟨a, b, vs, zs, rfl, rfl, h, o2.sub _ _ hb, by omega, ?_⟩
                have w := Ok.write (n := .lst (vs ++ zs)) (o := .lst os) (o' := .lst (os ++ ds.map O.fz)) (res := .fz .non) (v := .non) (fr := []) (fo' := fo ++ []) o2.sub o2.nd o2.nf (by rw [h]; simp) rE (rl.tracked (.cons (.fz (.lst hb rb)) .nil)) (.fz .non)
                  (by simpa using nodup_mid o2.nd) (fun z hz => by simpa using hz) fun H' kp ha => .lst ha ((rl.append (RepL.ofIs rb)).mono (Same.refl _) fun z hz u e => kp z u (not_a o2.nd z (by simpa using hz)) e)
                exact q _ _ _ _ (s2.trans w.1) w.2
      · cases hu
    · cases hu
  · cases hu
end
end Mn

set_option Elab.async false
set_option linter.all false
set_option maxRecDepth 100000
set_option maxHeartbeats 4000000
namespace Mn
open PySem PySem.Spec PyProof.Rows L2

/-! ### what is walked -/
def iAny (K : PySem.W.Frag) (te : TE) : TI := fun σ H R => te σ H fun x H1 =>
  (∃ a xs, x = .ref a ∧ SqL K H1 a xs ∧ R (Itl K a) H1) ∨ (∃ a xs, x = .ref a ∧ SqT K H1 a xs ∧ R (Itt K a) H1) ∨ ∃ z, x = .str z ∧ R (Its z) H1
theorem fresh_one {X : Cx} {pins : List (Addr × Obj)} {σ : L2.St} {H : Hp} {s : Shared} (I : Inv X pins σ H s) : ∀ b ∈ [s.heap.objs.size], FpOk X pins H b := by
  intro b hb
  obtain rfl : b = s.heap.objs.size := List.mem_singleton.mp hb
  exact I.fpOk (Nat.le_refl _) (I.hok.fresh (Nat.le_refl _))
theorem pi_any {X : Cx} {tg e : Expr} {te : TE} (he : PE X e te) : PI X tg e (iAny X.K te) := by
  constructor
  intro pins s σ H R I h
  apply thn (he.run pins s σ H _ I h)
  rintro v s1 ⟨x, H1, I1, rx, hA | hB | hC⟩
  · obtain ⟨a, xs, rfl, hs, hR⟩ := hA
    obtain rfl : v = Value.ref a := rx
    obtain ⟨us, _, hl, _⟩ := I1.list hs
    apply wpAny_pyIter_list hl.isList
    exact ⟨_, _, _, _, H1, rfl, I1.kept (t' := s1.toks) (fun b o q => Heap.get?_push_of_some _ q), turn_list a _, ⟨_, Heap.get?_push_size _ rfl, rfl, rfl⟩, fresh_one I1, hR⟩
  · obtain ⟨a, xs, rfl, hs, hR⟩ := hB
    obtain rfl : v = Value.ref a := rx
    obtain ⟨us, _, hl, _⟩ := I1.tuple hs
    apply wpAny_pyIter_tuple (show s1.heap.IsTuple a us.toArray from hl)
    exact ⟨_, _, _, _, H1, rfl, I1.kept (t' := s1.toks) (fun b o q => Heap.get?_push_of_some _ q), turn_tuple a _, ⟨_, Heap.get?_push_size _ rfl, rfl, rfl⟩, fresh_one I1, hR⟩
  · obtain ⟨z, rfl, hR⟩ := hC
    obtain ⟨t, rfl⟩ := rx
    cases ha : z.cps.all (· < 128) with
    | true => exact wpAny_pyIter_ascii ha (pi_one (tk := s1.toks) I1 _ (turn_str _ z t "str_ascii_iterator" (.inl rfl)) ⟨_, Heap.get?_push_size _ rfl, rfl, rfl⟩ hR)
    | false => exact wpAny_pyIter_wide ha (pi_one (tk := s1.toks) I1 _ (turn_str _ z t "str_iterator" (.inr rfl)) ⟨_, Heap.get?_push_size _ rfl, rfl, rfl⟩ hR)

/-- a walk over these data, whatever else goes on -/
structure Wk (K : PySem.W.Frag) (ad : Nat → Addr) (J : It) (ds : List D) (F : Hp) : Prop where
  go : ∀ i F2 H2, i < ds.length → Same F F2 → Same F2 H2 → J.go i H2
  stop : ∀ F2 H2, Same F F2 → Same F2 H2 → J.stop ds.length H2
  yld : ∀ i F2 H2 x H3, i < ds.length → Same F F2 → Same F2 H2 → J.yld i H2 x H3 → ∃ F3 d, ds[i]? = some d ∧ Same F2 F3 ∧ Same H2 H3 ∧ Same F3 H3 ∧ (∀ b o, H2 b = some o → F2 b = none → F3 b = none) ∧ (∀ b, H3 b = none → H2 b = none) ∧ Is K ad F3 d x
structure SI (X : Cx) (ad : Nat → Addr) (W : WX) (tg iter : Expr) (m : M (List D)) : Prop where
  ex : ∃ wi, PI X tg iter wi ∧ ∀ F H E σ f R, Ok X.K ad F H E σ f →
    (match m E with
      | .ok ds E' => ∀ F' H' f' J, Step F H f F' H' f' → Ok X.K ad F' H' E' σ f' → Wk X.K ad J ds F' → R J H'
      | .exc c E' => ∀ F' H' f', Step F H f F' H' f' → Ok X.K ad F' H' E' σ f' → W (.ref (ad c)) none σ H'
      | .bad => False) → wi σ H R
/-- the items of a value -/
def itD : D → Option (List D)
  | .tup ds => some ds
  | .lst ds => some ds
  | .str s => some (s.map fun c => .str [c])
  | _ => none
def iVal (m : M O) : M (List D) := fun E => (m E).bind fun o E1 => match itD o.toD with
  | some ds => .ok ds E1
  | none => .bad
section
variable {K : PySem.W.Frag} {ad : Nat → Addr} {F : Hp}
theorem wk_list {a : Addr} {ds : List D} {vs : List V} (h : F a = some (.lst vs)) (r : IsL K ad F ds vs) : Wk K ad (Itl K a) ds F where
  go i F2 H2 hi s1 s2 := by
    have : i < vs.length := by rw [← r.length]; exact hi
    exact ⟨vs, vs[i], .inl (.inl (s2 _ _ (s1 _ _ h))), by simp [this]⟩
  stop F2 H2 s1 s2 := ⟨vs, .inl (.inl (s2 _ _ (s1 _ _ h))), by rw [r.length]; exact Nat.le_refl _⟩
  yld i F2 H2 x H3 hi s1 s2 y := by
    obtain ⟨rfl, y⟩ := y
    obtain ⟨d, e, q⟩ := r.getV (y vs (.inl (.inl (s2 _ _ (s1 _ _ h)))))
    exact ⟨F2, d, e, Same.refl _, Same.refl _, s2, fun _ _ _ e => e, fun _ e => e, q.mono s1⟩
theorem wk_tup {a : Addr} {ds : List D} {vs : List V} (h : SqT K F a vs) (r : IsL K ad F ds vs) : Wk K ad (Itt K a) ds F where
  go i F2 H2 hi s1 s2 := by
    have : i < vs.length := by rw [← r.length]; exact hi
    exact ⟨vs, vs[i], Same.sqT s2 (Same.sqT s1 h), by simp [this]⟩
  stop F2 H2 s1 s2 := ⟨vs, Same.sqT s2 (Same.sqT s1 h), by rw [r.length]; exact Nat.le_refl _⟩
  yld i F2 H2 x H3 hi s1 s2 y := by
    obtain ⟨rfl, y⟩ := y
    obtain ⟨d, e, q⟩ := r.getV (y vs (Same.sqT s2 (Same.sqT s1 h)))
    exact ⟨F2, d, e, Same.refl _, Same.refl _, s2, fun _ _ _ e => e, fun _ e => e, q.mono s1⟩
theorem wk_str {s : List Nat} : Wk K ad (Its ⟨s.toArray⟩) (s.map fun c => D.str [c]) F where
  go i F2 H2 hi _ _ := by show i < s.toArray.size; simpa using hi
  stop F2 H2 _ _ := by show s.toArray.size ≤ _; simp
  yld i F2 H2 x H3 hi s1 s2 y := by
    obtain ⟨rfl, c, hc, rfl⟩ := y
    have hc : s.toArray[i]? = some c := hc
    refine ⟨F2, .str [c], ?_, Same.refl _, Same.refl _, s2, fun _ _ _ e => e, fun _ e => e, .str [c]⟩
    rw [List.getElem?_map]
    simp at hc
    simp [hc]
theorem wk_range {lo : Int} {n : Nat} : Wk K ad (Itr lo n) ((List.range n).map fun (i : Nat) => D.int (lo + (i : Int))) F where
  go i F2 H2 hi _ _ := by show i < n; simpa using hi
  stop F2 H2 _ _ := by show n ≤ _; simp
  yld i F2 H2 x H3 hi s1 s2 y := by
    obtain ⟨rfl, rfl⟩ := y
    refine ⟨F2, .int (lo + i), ?_, Same.refl _, Same.refl _, s2, fun _ _ _ e => e, fun _ e => e, .int _⟩
    have : i < n := by simpa using hi
    simp [this]
theorem wk_rangeC {lo c : Int} {n : Nat} : Wk K ad (Itc lo c n) ((List.range n).map fun (i : Nat) => D.int (lo + (i : Int) * c)) F where
  go i F2 H2 hi _ _ := by show i < n; simpa using hi
  stop F2 H2 _ _ := by show n ≤ _; simp
  yld i F2 H2 x H3 hi s1 s2 y := by
    obtain ⟨rfl, rfl⟩ := y
    refine ⟨F2, .int (lo + i * c), ?_, Same.refl _, Same.refl _, s2, fun _ _ _ e => e, fun _ e => e, .int _⟩
    have : i < n := by simpa using hi
    simp [this]
/-- a walk that makes a new pair at each turn -/
theorem wk_pair {J : It} {n : Nat} {xs ys : Nat → Option V} {ds : List D} {G : Hp → Prop} (w : Walk J n G (YPair xs ys)) (hn : ds.length = n) (hG : ∀ F2 H2, Same F F2 → Same F2 H2 → G H2)
    (hd : ∀ i x y, xs i = some x → ys i = some y → ∃ d e, ds[i]? = some (.tup [d, e]) ∧ Is K ad F d x ∧ Is K ad F e y) : Wk K ad J ds F where
  go i F2 H2 hi s1 s2 := w.goes i H2 (hn ▸ hi) (hG F2 H2 s1 s2)
  stop F2 H2 s1 s2 := by rw [hn]; exact w.stops H2 (hG F2 H2 s1 s2)
  yld i F2 H2 x H3 hi s1 s2 y := by
    obtain ⟨T, u, z, rfl, hT, rfl, h1, h2⟩ := w.yields i H2 x H3 (hn ▸ hi) (hG F2 H2 s1 s2) y
    obtain ⟨d, e, hde, q1, q2⟩ := hd i u z h1 h2
    have nF : F2 T = none := Same.free s2 hT
    have sF : Same F2 (upd F2 T (.tup [u, z])) := Same.upd nF
    refine ⟨upd F2 T (.tup [u, z]), _, hde, sF, Same.upd hT, fun b o e => ?_, fun b o e hn => by rw [upd_ne (ne_of_none e hT)]; exact hn, fun b e => ?_, .tup (.inl (.inl upd_same)) (.cons ((q1.mono s1).mono sF) (.cons ((q2.mono s1).mono sF) .nil))⟩
    · by_cases hb : b = T
      · subst hb; rw [upd_same] at e ⊢; exact e
      · rw [upd_ne hb] at e ⊢; exact s2 b o e
    · by_cases hb : b = T
      · subst hb; exact hT
      · rw [upd_ne hb] at e; exact e
end
section
variable {X : Cx} {ad : Nat → Addr} {W : WX} {tg e : Expr} {m : M O}
theorem i_val (he : SE X ad W e m) : SI X ad W tg e (iVal m) := by
  obtain ⟨te, p, q⟩ := he.ex
  refine ⟨_, pi_any p, fun F H E σ f R ok z => q F H E σ f _ ok ?_⟩
  unfold iVal at z
  cases hm : m E with
  | exc c E1 => rw [hm] at z; exact fun F' H' f' s o => z F' H' f' s o
  | bad => rw [hm] at z; exact z
  | ok o E1 =>
    rw [hm, bind_ok] at z
    intro F1 H1 v f1 s1 o1
    obtain ⟨F2, f2, s2, o2, _⟩ := o1.freeze
    have hI := o2.head
    obtain ⟨f3, o3, s3⟩ := o2.tl'
    have st := s1.trans (s2.trans s3)
    cases hi : itD o.toD with
    | none => rw [hi] at z; exact z.elim
    | some ds =>
      rw [hi] at z
      generalize o.toD = dd at hI hi
      cases hI with
      | @tup a _ vs hs r => cases hi; exact .inr (.inl ⟨a, vs, rfl, Same.sqT o2.sub hs, z F2 H1 f3 _ st o3 (wk_tup hs r)⟩)
      | @lst a _ vs hs r => cases hi; exact .inl ⟨a, vs, rfl, .inl (.inl (o2.sub _ _ hs)), z F2 H1 f3 _ st o3 (wk_list hs r)⟩
      | str s => cases hi; exact .inr (.inr ⟨_, rfl, z F2 H1 f3 _ st o3 wk_str⟩)
      | _ => cases hi
/-- range(..) -/
def rng1 : List O → Option (List D)
  | [.fz (.int j)] => if -(2 ^ 62) ≤ j ∧ j < 2 ^ 62 then some ((List.range j.toNat).map fun (i : Nat) => D.int (i : Int)) else none
  | _ => none
def rng2 : List O → Option (List D)
  | [.fz (.int a), .fz (.int b)] => if -(2 ^ 62) ≤ a ∧ a < 2 ^ 62 ∧ -(2 ^ 62) ≤ b ∧ b < 2 ^ 62 then some ((List.range (b - a).toNat).map fun (i : Nat) => D.int (a + (i : Int))) else none
  | _ => none
def rng3 : List O → Option (List D)
  | [.fz (.int a), .fz (.int b), .fz (.int c)] => if c ≠ 0 ∧ c.natAbs < 1073741824 ∧ Builtin.Range.small a b c = true ∧ 0 ≤ Builtin.Range.rangeSize a b c then some ((List.range (Builtin.Range.rangeSize a b c).toNat).map fun (i : Nat) => D.int (a + (i : Int) * c)) else none
  | _ => none
def iArgs (g : List O → Option (List D)) (ms : M (List O)) : M (List D) := fun E => (ms E).bind fun os E1 => match g os with
  | some ds => .ok ds E1
  | none => .bad
theorem args_core {ms : M (List O)} {es : List Expr} {ta : TA} {g : List O → Option (List D)} {R0 : (It → Hp → Prop) → List V → Hp → Prop} (qa : ∀ F H E σ f Q, Ok X.K ad F H E σ f → AftL X.K ad W [] [] F H f σ (ms E) Q → ta σ H Q)
    (h : ∀ F H os vs E σ f ds R, Ok X.K ad F H (os.map some ++ E) (vs.map some ++ σ) f → vs.length = os.length → g os = some ds → (∀ F' H' f' J, Step F H f F' H' f' → Ok X.K ad F' H' E σ f' → Wk X.K ad J ds F' → R J H') → R0 R vs H) :
    ∀ F H E σ f R, Ok X.K ad F H E σ f →
    (match iArgs g ms E with
      | .ok ds E' => ∀ F' H' f' J, Step F H f F' H' f' → Ok X.K ad F' H' E' σ f' → Wk X.K ad J ds F' → R J H'
      | .exc c E' => ∀ F' H' f', Step F H f F' H' f' → Ok X.K ad F' H' E' σ f' → W (.ref (ad c)) none σ H'
      | .bad => False) → ta σ H (R0 R) := by
  intro F H E σ f R ok z
  refine qa F H E σ f _ ok ?_
  unfold iArgs at z
  cases hm : ms E with
  | exc c E1 => rw [hm] at z; exact fun F' H' f' s o => z F' H' f' s o
  | bad => rw [hm] at z; exact z
  | ok os E1 =>
    rw [hm, bind_ok] at z
    intro F1 H1 vs f1 s1 l1 o1
    cases hg : g os with
    | none => rw [hg] at z; exact z.elim
    | some ds =>
      rw [hg] at z
      exact h F1 H1 os vs E1 σ f1 ds R o1 l1 hg fun F' H' f' J s o w => z F' H' f' J (s1.trans s) o w
theorem i_range1 {a : Expr} {p pos : Pos} {ms : M (List O)} (hm : X.mg "range" = none) (ha : SA X ad W [a] ms) (hg : Gl X "range" := by rfl) (hs : starEach [a] X.env = [(false, eval a X.env)] := by rfl) :
    SI X ad W tg (.Call (.Name "range" p) [a] [] pos) (iArgs rng1 ms) := by
  obtain ⟨ta, pa, qa⟩ := ha.ex
  refine ⟨_, pi_range1 hg hm pa hs, args_core (es := [a]) (R0 := fun R vs H1 => ∃ j : Int, vs = [.int j] ∧ -(2 ^ 62) ≤ j ∧ j < 2 ^ 62 ∧ R (Itr 0 j.toNat) H1) qa fun F H os vs E σ f ds R ok hl hg q => ?_⟩
  unfold rng1 at hg
  split at hg
  · next j =>
    split at hg
    · next hh =>
      cases hg
      match vs, hl, ok with
      | [v], hl, ok =>
        have hI := Ok.head (E := E) (σ := σ) (v := v) ok
        cases hI
        obtain ⟨f2, o2, s2⟩ := Ok.tl' (E := E) (σ := σ) (y := some (V.int j)) ok
        refine ⟨j, rfl, hh.1, hh.2, q F H f2 _ s2 o2 ?_⟩
        have w := wk_range (K := X.K) (ad := ad) (F := F) (lo := 0) (n := j.toNat)
        simpa using w
    · cases hg
  · cases hg
theorem i_range2 {a b : Expr} {p pos : Pos} {ms : M (List O)} (hm : X.mg "range" = none) (ha : SA X ad W [a, b] ms) (hg : Gl X "range" := by rfl) (hs : starEach [a, b] X.env = [(false, eval a X.env), (false, eval b X.env)] := by rfl) (hs2 : starEach [b] X.env = [(false, eval b X.env)] := by rfl) :
    SI X ad W tg (.Call (.Name "range" p) [a, b] [] pos) (iArgs rng2 ms) := by
  obtain ⟨ta, pa, qa⟩ := ha.ex
  refine ⟨_, pi_range2 hg hm pa hs hs2, args_core (es := [a, b]) (R0 := fun R vs H1 => ∃ i j : Int, vs = [.int i, .int j] ∧ (-(2 ^ 62) ≤ i ∧ i < 2 ^ 62 ∧ -(2 ^ 62) ≤ j ∧ j < 2 ^ 62) ∧ R (Itr i (j - i).toNat) H1) qa fun F H os vs E σ f ds R ok hl hg q => ?_⟩
  unfold rng2 at hg
  split at hg
  · next i j =>
    split at hg
    · next hh =>
      cases hg
      match vs, hl, ok with
      | [v, u], hl, ok =>
        have hI := Ok.head (E := _ :: E) (σ := _ :: σ) (v := v) ok
        cases hI
        obtain ⟨f2, o2, s2⟩ := Ok.tl' (E := _ :: E) (σ := _ :: σ) (y := some (V.int i)) ok
        have hI := Ok.head (E := E) (σ := σ) (v := u) o2
        cases hI
        obtain ⟨f3, o3, s3⟩ := Ok.tl' (E := E) (σ := σ) (y := some (V.int j)) o2
        exact ⟨i, j, rfl, hh, q F H f3 _ (s2.trans s3) o3 wk_range⟩
    · cases hg
  · cases hg
theorem i_range3 {a b c : Expr} {p pos : Pos} {ms : M (List O)} (hm : X.mg "range" = none) (ha : SA X ad W [a, b, c] ms) (hg : Gl X "range" := by rfl)
    (hs : starEach [a, b, c] X.env = (false, eval a X.env) :: starEach [b, c] X.env := by rfl) (hpl : (backTo pos (starEach [b, c] X.env)).any (·.1) = false := by rfl) :
    SI X ad W tg (.Call (.Name "range" p) [a, b, c] [] pos) (iArgs rng3 ms) := by
  obtain ⟨ta, pa, qa⟩ := ha.ex
  refine ⟨_, pi_range3 hg hm pa hs hpl, args_core (es := [a, b, c]) (R0 := fun R vs H1 => ∃ (i j c : Int) (n : Nat), vs = [.int i, .int j, .int c] ∧ RgC i j c n ∧ R (Itc i c n) H1) qa fun F H os vs E σ f ds R ok hl hg q => ?_⟩
  unfold rng3 at hg
  split at hg
  · next i j k =>
    split at hg
    · next hh =>
      cases hg
      match vs, hl, ok with
      | [v, u, w], hl, ok =>
        have hI := Ok.head (E := _ :: _ :: E) (σ := _ :: _ :: σ) (v := v) ok
        cases hI
        obtain ⟨f2, o2, s2⟩ := Ok.tl' (E := _ :: _ :: E) (σ := _ :: _ :: σ) (y := some (V.int i)) ok
        have hI := Ok.head (E := _ :: E) (σ := _ :: σ) (v := u) o2
        cases hI
        obtain ⟨f3, o3, s3⟩ := Ok.tl' (E := _ :: E) (σ := _ :: σ) (y := some (V.int j)) o2
        have hI := Ok.head (E := E) (σ := σ) (v := w) o3
        cases hI
        obtain ⟨f4, o4, s4⟩ := Ok.tl' (E := E) (σ := σ) (y := some (V.int k)) o3
        exact ⟨i, j, k, _, rfl, ⟨hh.1, hh.2.1, hh.2.2.1, (Int.toNat_of_nonneg hh.2.2.2).symm⟩, q F H f4 _ (s2.trans (s3.trans s4)) o4 wk_rangeC⟩
    · cases hg
  · cases hg
/-- zip of two lists, of two tuples -/
def zipD : List O → Option (List D)
  | [a, b] => match a.toD, b.toD with
    | .lst xs, .lst ys => some ((xs.zip ys).map fun p => .tup [p.1, p.2])
    | .tup xs, .tup ys => some ((xs.zip ys).map fun p => .tup [p.1, p.2])
    | _, _ => none
  | _ => none
theorem zip_at {K : PySem.W.Frag} {F : Hp} {xs ys : List D} {vs ws : List V} (r1 : IsL K ad F xs vs) (r2 : IsL K ad F ys ws) (i : Nat) (x y : V) (h1 : vs[i]? = some x) (h2 : ws[i]? = some y) :
    ∃ d e, ((xs.zip ys).map fun p => D.tup [p.1, p.2])[i]? = some (.tup [d, e]) ∧ Is K ad F d x ∧ Is K ad F e y := by
  obtain ⟨d, e1, q1⟩ := r1.getV h1
  obtain ⟨e, e2, q2⟩ := r2.getV h2
  refine ⟨d, e, ?_, q1, q2⟩
  rw [List.getElem?_map, (List.getElem?_zip_eq_some (z := (d, e))).mpr ⟨e1, e2⟩]
  rfl
theorem zip_len {xs ys : List D} {vs ws : List V} (h1 : xs.length = vs.length) (h2 : ys.length = ws.length) : ((xs.zip ys).map fun p => D.tup [p.1, p.2]).length = min vs.length ws.length := by
  simp [h1, h2]
theorem walk_zipT {K : PySem.W.Frag} {a b : Addr} {xs ys : List V} {n : Nat} (hn : n = min xs.length ys.length) : Walk (RZ.ItzT K a b) n (fun H => SqT K H a xs ∧ SqT K H b ys) (YPair (fun i => xs[i]?) (fun i => ys[i]?)) := by
  subst hn
  constructor
  · intro i H hi q
    have h1 : i < xs.length := by omega
    have h2 : i < ys.length := by omega
    exact ⟨xs, ys, xs[i], ys[i], q.1, q.2, List.getElem?_eq_getElem h1, List.getElem?_eq_getElem h2⟩
  · exact fun H q => ⟨xs, ys, q.1, q.2, by omega⟩
  · rintro i H v H' _ q ⟨T, x, z, h1, h2, h3, h4, h5⟩
    exact ⟨T, x, z, h1, h2, h3, h4 xs q.1, h5 ys q.2⟩
theorem i_zip {a b : Expr} {elts : List Expr} {kk : Nat} {p pos tpos : Pos} {ms : M (List O)} (hm : X.mg "zip" = none) (ha : SA X ad W [a, b] ms) (hg : Gl X "zip" := by rfl)
    (hs : starEach [a, b] X.env = (false, eval a X.env) :: starEach [b] X.env := by rfl) (hpl : (backTo pos (starEach [b] X.env)).any (·.1) = false := by rfl) :
    SI X ad W (.Tuple elts kk tpos) (.Call (.Name "zip" p) [a, b] [] pos) (iArgs zipD ms) := by
  obtain ⟨ta, pa, qa⟩ := ha.ex
  refine ⟨_, RZ.pi_zipA hg hm pa hs hpl, args_core (es := [a, b]) (R0 := fun R vs H1 => ∃ a b xs ys, vs = [.ref a, .ref b] ∧ ((SqL X.K H1 a xs ∧ SqL X.K H1 b ys ∧ R (Itz X.K a b) H1) ∨ (SqT X.K H1 a xs ∧ SqT X.K H1 b ys ∧ R (RZ.ItzT X.K a b) H1))) qa fun F H os vs E σ f ds R ok hl hg q => ?_⟩
  obtain ⟨F1, f1, s1, o1, r1⟩ := Ok.freezeL hl.symm ok
  unfold zipD at hg
  split at hg
  · next x y =>
    simp only [O.toDs] at r1
    match vs, hl, r1 with
    | [v, u], hl, .cons i1 (.cons i2 .nil) =>
      split at hg
      · next xs ys h1 h2 =>
        cases hg
        rw [h1] at i1
        rw [h2] at i2
        cases i1 with
        | @lst a _ va ha ra =>
          cases i2 with
          | @lst b _ vb hb rb =>
            refine ⟨a, b, va, vb, rfl, .inl ⟨.inl (.inl (o1.sub _ _ ha)), .inl (.inl (o1.sub _ _ hb)), q F1 H f1 _ s1 o1 (wk_pair (walk_zip (K := X.K) (a := a) (b := b) (xs := va) (ys := vb) rfl) (zip_len ra.length rb.length) (fun F2 H2 s2 s3 => ⟨.inl (.inl (s3 _ _ (s2 _ _ ha))), .inl (.inl (s3 _ _ (s2 _ _ hb)))⟩) fun i x y e1 e2 => zip_at ra rb i x y e1 e2)⟩⟩
      · next xs ys h1 h2 =>
        cases hg
        rw [h1] at i1
        rw [h2] at i2
        cases i1 with
        | @tup a _ va ha ra =>
          cases i2 with
          | @tup b _ vb hb rb =>
            refine ⟨a, b, va, vb, rfl, .inr ⟨Same.sqT o1.sub ha, Same.sqT o1.sub hb, q F1 H f1 _ s1 o1 (wk_pair (walk_zipT (K := X.K) (a := a) (b := b) (xs := va) (ys := vb) rfl) (zip_len ra.length rb.length) (fun F2 H2 s2 s3 => ⟨Same.sqT s3 (Same.sqT s2 ha), Same.sqT s3 (Same.sqT s2 hb)⟩) fun i x y e1 e2 => zip_at ra rb i x y e1 e2)⟩⟩
      · cases hg
  · cases hg
end

/-! ### for, while -/
def fIter (t : Mt) (b : Ms) : List D → En → Fl
  | [], E => .next E
  | d :: ds, E => (t (.fz d) E).fl fun _ E1 => match b E1 with
    | .next E2 => fIter t b ds E2
    | .cont E2 => fIter t b ds E2
    | .brk E2 => .next E2
    | r => r
def mFor (t : Mt) (mi : M (List D)) (b : Ms) : Ms := fun E => (mi E).fl fun ds E1 => fIter t b ds E1
def wIter (c : M Bool) (b : Ms) : Nat → En → Option Fl
  | 0, _ => none
  | n + 1, E => match c E with
    | .ok false E1 => some (.next E1)
    | .ok true E1 => match b E1 with
      | .next E2 => wIter c b n E2
      | .cont E2 => wIter c b n E2
      | .brk E2 => some (.next E2)
      | r => some r
    | .exc x E1 => some (.exc x E1)
    | .bad => some .bad
open Classical in
noncomputable def mWhile (c : M Bool) (b : Ms) : Ms := fun E => if h : ∃ n r, wIter c b n E = some r then (wIter c b (Classical.choose h) E).getD .bad else .bad
theorem wIter_more {c : M Bool} {b : Ms} : ∀ {n m : Nat} {E : En} {r : Fl}, wIter c b n E = some r → n ≤ m → wIter c b m E = some r
  | 0, _, _, _, h, _ => by cases h
  | n + 1, 0, _, _, _, h => by omega
  | n + 1, m + 1, E, r, h, hm => by
    have ih : ∀ {E r}, wIter c b n E = some r → wIter c b m E = some r := fun q => wIter_more q (by omega)
    unfold wIter at h ⊢
    split at h
    · exact h
    · next E1 hc =>
      split at h
      · exact ih h
      · exact ih h
      · exact h
      · exact h
    · exact h
    · exact h
theorem mWhile_of {c : M Bool} {b : Ms} {n : Nat} {E : En} {r : Fl} (h : wIter c b n E = some r) : mWhile c b E = r := by
  unfold mWhile
  have hx : ∃ n r, wIter c b n E = some r := ⟨n, r, h⟩
  rw [dif_pos hx]
  obtain ⟨r', h'⟩ := Classical.choose_spec hx
  rcases Nat.le_total (Classical.choose hx) n with q | q
  · have := wIter_more h' q
    rw [h'] at *
    rw [h] at this
    cases this
    rfl
  · rw [wIter_more h q]
    rfl
theorem mWhile_ex {c : M Bool} {b : Ms} {E : En} (h : mWhile c b E ≠ .bad) : ∃ n, wIter c b n E = some (mWhile c b E) := by
  by_cases hx : ∃ n r, wIter c b n E = some r
  · obtain ⟨n, r, e⟩ := hx
    exact ⟨n, by rw [mWhile_of e]; exact e⟩
  · exfalso
    apply h
    unfold mWhile
    rw [dif_neg hx]
/-- one turn, then k -/
def wTurn (c : M Bool) (b : Ms) (k : En → Fl) (E : En) : Fl := match c E with
  | .ok false E1 => .next E1
  | .ok true E1 => match b E1 with
    | .next E2 => k E2
    | .cont E2 => k E2
    | .brk E2 => .next E2
    | r => r
  | .exc x E1 => .exc x E1
  | .bad => .bad
theorem wIter_succ {c : M Bool} {b : Ms} {n : Nat} {E : En} (h : ∀ E2, (∃ E1, c E = .ok true E1 ∧ (b E1 = .next E2 ∨ b E1 = .cont E2)) → ∃ r, wIter c b n E2 = some r) : wIter c b (n + 1) E = some (wTurn c b (mWhile c b) E) := by
  unfold wIter wTurn
  cases hc : c E with
  | exc x E1 => rfl
  | bad => rfl
  | ok k E1 =>
    cases k with
    | false => rfl
    | true =>
      cases hb : b E1 with
      | next E2 =>
        obtain ⟨r, e⟩ := h E2 ⟨E1, hc, .inl hb⟩
        simp only [hb]
        rw [mWhile_of e, e]
      | cont E2 =>
        obtain ⟨r, e⟩ := h E2 ⟨E1, hc, .inr hb⟩
        simp only [hb]
        rw [mWhile_of e, e]
      | brk E2 => simp only [hb]
      | ret v E2 => simp only [hb]
      | exc c E2 => simp only [hb]
      | bad => simp only [hb]
theorem mWhile_turn {c : M Bool} {b : Ms} {E : En} : mWhile c b E = wTurn c b (mWhile c b) E := by
  by_cases hx : ∃ n r, wIter c b n E = some r
  · obtain ⟨n, r, e⟩ := hx
    cases n with
    | zero => cases e
    | succ n =>
      refine mWhile_of (wIter_succ (n := n) fun E2 h => ?_)
      obtain ⟨E1, hc, hb⟩ := h
      unfold wIter at e
      rw [hc] at e
      rcases hb with hb | hb
      · simp only [hb] at e; exact ⟨r, e⟩
      · simp only [hb] at e; exact ⟨r, e⟩
  · have e1 : mWhile c b E = .bad := by unfold mWhile; rw [dif_neg hx]
    rw [e1]
    by_cases hy : ∃ E1 E2, c E = .ok true E1 ∧ (b E1 = .next E2 ∨ b E1 = .cont E2)
    · obtain ⟨E1, E2, hc, hb⟩ := hy
      have hz : mWhile c b E2 = .bad := by
        by_cases hz : mWhile c b E2 = .bad
        · exact hz
        · obtain ⟨n, e⟩ := mWhile_ex hz
          refine absurd ⟨n + 1, _, wIter_succ (n := n) fun E3 h => ?_⟩ hx
          obtain ⟨E1', hc', hb'⟩ := h
          rw [hc] at hc'
          cases hc'
          have : E3 = E2 := by
            rcases hb with q | q <;> rcases hb' with q' | q' <;> rw [q] at q' <;> cases q' <;> rfl
          subst this
          exact ⟨_, e⟩
      unfold wTurn
      rw [hc]
      rcases hb with hb | hb <;> simp only [hb, hz]
    · exact absurd ⟨1, _, wIter_succ (n := 0) fun E2 h => absurd (by obtain ⟨E1, a, b⟩ := h; exact ⟨E1, E2, a, b⟩) hy⟩ hx
section
variable {X : Cx} {ad : Nat → Addr} {W : WX} {io : List Nat} {tg it : Expr} {mi : M (List D)} {t : Mt} {b : Ms} {xs : List Stmt} {pos : Pos}
theorem z_for {sl : List Nat} (hp : PassesOwn (model X.prog X.w) X.A X.env X.xe) (hc : X.calm = true) (hi : SI X ad W tg it mi) (hg : SG X ad W sl tg t) (hb : SSs X ad W io xs b) (h0 : ∀ j ∈ io, j ∉ sl := by decide) (hs : ∀ x, foldedSetIterable it X.env x = pure x := by intro _; rfl) :
    SS X ad W io (.For tg it xs [] pos) (mFor t mi b) := by
  obtain ⟨wi, pi, qi⟩ := hi.ex
  obtain ⟨g, pg, qg⟩ := hg.ex
  obtain ⟨tb, pb, qb⟩ := hb.ex
  refine ⟨_, ps_for hp hc pi pg pb hs, fun F H E σ f D ok z => qi F H E σ f _ ok ?_⟩
  unfold mFor at z
  cases hm : mi E with
  | exc c E1 => rw [hm] at z; exact fun F' H' f' s o => z F' H' σ f' s o
  | bad => rw [hm] at z; exact z
  | ok ds E1 =>
    rw [hm, fl_ok] at z
    intro F1 H1 f1 J s1 o1 wk
    refine ⟨fun i m σ' H' => m = ds.length - i ∧ i ≤ ds.length ∧ ∃ F' E' f', Same F1 F' ∧ Ok X.K ad F' H' E' σ' f' ∧ AftS X.K ad W io F' H' f' σ' (fIter t b (ds.drop i) E') D, ⟨ds.length, by simp, Nat.zero_le _, F1, E1, f1, Same.refl _, o1, by simpa using AftS.step z s1 .refl⟩, ?_⟩
    rintro i m σ' H' ⟨rfl, hi, F', E', f', sF, ok', z'⟩
    by_cases hlt : i < ds.length
    · refine .inr ⟨wk.go i F' H' hlt sF ok'.sub, fun σ2 H2 => ds.length - (i + 1) = ds.length - (i + 1) ∧ i + 1 ≤ ds.length ∧ ∃ F' E' f', Same F1 F' ∧ Ok X.K ad F' H2 E' σ2 f' ∧ AftS X.K ad W io F' H2 f' σ2 (fIter t b (ds.drop (i + 1)) E') D, fun σ2 H2 h => ⟨ds.length - (i + 1), by omega, h⟩, fun x H3 y => ?_⟩
      obtain ⟨F3, d, hd, s2, h2, sub3, g3, t3, q3⟩ := wk.yld i F' H' x H3 hlt sF ok'.sub y
      have e1 : ds.drop i = d :: ds.drop (i + 1) := by
        rw [List.drop_eq_getElem_cons hlt]
        congr 1
        rw [List.getElem?_eq_getElem hlt] at hd
        exact Option.some.inj hd
      have st3 : Step F' H' f' F3 H3 f' := Step.same s2 h2 g3 t3
      have ok3 : Ok X.K ad F3 H3 E' σ' f' := ⟨sub3, ok'.rep.mono s2 fun a ha u e => h2 a u e, ok'.nd, fun a ha => by
        obtain ⟨u, e⟩ := ok'.rep.trk a ha
        exact g3 a u e (ok'.nf a ha)⟩
      rw [e1] at z'
      unfold fIter at z'
      refine qg F3 H3 E' σ' f' (.fz d) x _ (ok3.dat q3) ?_
      cases ht : t (.fz d) E' with
      | exc c E2 => rw [ht] at z'; exact fun F4 H4 f4 s o => z' F4 H4 σ' f4 (st3.trans s) o
      | bad => rw [ht] at z'; exact z'
      | ok u E2 =>
        rw [ht, fl_ok] at z'
        intro F4 H4 σ4 f4 s4 o4 p4
        have p4 := p4.pr h0
        refine qb F4 H4 E2 σ4 f4 _ o4 ?_
        have stp := st3.trans s4
        cases hb2 : b E2 with
        | next E3 => rw [hb2] at z'; exact fun F5 H5 σ5 f5 s5 o5 p5 => ⟨rfl, hlt, F5, E3, f5, sF.trans ((stp.trans s5).f), o5, AftS.step z' (stp.trans s5) (p4.trans p5)⟩
        | cont E3 => rw [hb2] at z'; exact fun F5 H5 σ5 f5 s5 o5 p5 => ⟨rfl, hlt, F5, E3, f5, sF.trans ((stp.trans s5).f), o5, AftS.step z' (stp.trans s5) (p4.trans p5)⟩
        | brk E3 => rw [hb2] at z'; exact fun F5 H5 σ5 f5 s5 o5 p5 => z' F5 H5 σ5 f5 (stp.trans s5) o5 (p4.trans p5)
        | ret v E3 => rw [hb2] at z'; exact fun F5 H5 σ5 v5 f5 s5 o5 p5 => z' F5 H5 σ5 v5 f5 (stp.trans s5) o5 (p4.trans p5)
        | exc c E3 => rw [hb2] at z'; exact fun F5 H5 σ5 f5 s5 o5 => z' F5 H5 σ5 f5 (stp.trans s5) o5
        | bad => rw [hb2] at z'; exact z'
    · have e : i = ds.length := by omega
      subst e
      refine .inl ⟨wk.stop F' H' sF ok'.sub, ?_⟩
      rw [List.drop_length] at z'
      exact z' F' H' σ' f' (Step.refl _ _ _) ok' .refl
theorem z_while {c : Expr} {n : M Bool} (hp : PassesOwn (model X.prog X.w) X.A X.env X.xe) (hc : ST X ad W c n) (hb : SSs X ad W io xs b) : SS X ad W io (.While c xs [] pos) (mWhile n b) := by
  obtain ⟨tc, pc, qc⟩ := hc.ex
  obtain ⟨tb, pb, qb⟩ := hb.ex
  refine ⟨_, ps_while hp pc pb, fun F H E σ f D ok z => ?_⟩
  have hne : mWhile n b E ≠ .bad := fun e => by rw [e] at z; exact z
  obtain ⟨k, hk⟩ := mWhile_ex hne
  refine ⟨fun m σ' H' => ∃ F' E' f' r, Ok X.K ad F' H' E' σ' f' ∧ wIter n b m E' = some r ∧ AftS X.K ad W io F' H' f' σ' r D, ⟨k, F, E, f, _, ok, hk, z⟩, ?_⟩
  rintro m σ' H' ⟨F', E', f', r, ok', hw, z'⟩
  cases m with
  | zero => cases hw
  | succ m =>
    refine qc F' H' E' σ' f' _ ok' ?_
    unfold wIter at hw
    cases hn : n E' with
    | exc c E1 => rw [hn] at hw; cases hw; exact fun F2 H2 f2 s2 o2 => z' F2 H2 σ' f2 s2 o2
    | bad => rw [hn] at hw; cases hw; exact z'
    | ok k E1 =>
      rw [hn] at hw
      intro F2 H2 f2 s2 o2
      cases k with
      | false => cases hw; exact iteF (z' F2 H2 σ' f2 s2 o2 .refl)
      | true =>
        refine iteT ⟨fun σ3 H3 => ∃ F' E' f' r, Ok X.K ad F' H3 E' σ3 f' ∧ wIter n b m E' = some r ∧ AftS X.K ad W io F' H3 f' σ3 r D, fun σ3 H3 h => ⟨m, Nat.lt_succ_self _, h⟩, ?_⟩
        refine qb F2 H2 E1 σ' f2 _ o2 ?_
        replace hw : (match b E1 with
          | .next E2 => wIter n b m E2
          | .cont E2 => wIter n b m E2
          | .brk E2 => some (.next E2)
          | r => some r) = some r := hw
        cases hb2 : b E1 with
        | next E3 => rw [hb2] at hw; exact fun F5 H5 σ5 f5 s5 o5 p5 => ⟨F5, E3, f5, r, o5, hw, AftS.step z' (s2.trans s5) p5⟩
        | cont E3 => rw [hb2] at hw; exact fun F5 H5 σ5 f5 s5 o5 p5 => ⟨F5, E3, f5, r, o5, hw, AftS.step z' (s2.trans s5) p5⟩
        | brk E3 => rw [hb2] at hw; cases hw; exact fun F5 H5 σ5 f5 s5 o5 p5 => z' F5 H5 σ5 f5 (s2.trans s5) o5 p5
        | ret v E3 => rw [hb2] at hw; cases hw; exact fun F5 H5 σ5 v5 f5 s5 o5 p5 => z' F5 H5 σ5 v5 f5 (s2.trans s5) o5 p5
        | exc c E3 => rw [hb2] at hw; cases hw; exact fun F5 H5 σ5 f5 s5 o5 => z' F5 H5 σ5 f5 (s2.trans s5) o5
        | bad => rw [hb2] at hw; cases hw; exact z'
end
end Mn

set_option Elab.async false
set_option linter.all false
set_option maxRecDepth 100000
set_option maxHeartbeats 4000000
namespace Mn
open PySem PySem.Spec PyProof.Rows L2

/-! ### list comprehensions -/
def wipeE (E : En) : List Nat → En
  | [] => E
  | v :: vs => (wipeE E vs).set v none
def R.only {α β : Type} (r : R α) (k : α → En → R β) : R β := match r with
  | .ok a E => k a E
  | _ => .bad
theorem only_ok {α β : Type} (a : α) (E : En) (k : α → En → R β) : (R.ok a E).only k = k a E := rfl
def cIter (own : List Nat) (t : Mt) (c : M Bool) (m : M O) : List D → List O → En → R (List O)
  | [], acc, E => .ok acc (wipeE E own)
  | d :: ds, acc, E => (t (.fz d) E).only fun _ E1 => (c E1).only fun b E2 => if b then (m E2).only fun o E3 => if acc.length < sizeLine then cIter own t c m ds (acc ++ [o]) (wipeE E3 own) else .bad else cIter own t c m ds acc (wipeE E2 own)
def mYes : M Bool := fun E => .ok true E
def mComp (own : List Nat) (t : Mt) (mi : M (List D)) (c : M Bool) (m : M O) : M O := fun E => (mi E).bind fun ds E1 => (cIter own t c m ds [] (wipeE E1 own)).only fun os E2 => .ok (.lst os) E2

section
variable {K : PySem.W.Frag} {ad : Nat → Addr} {F H : Hp} {f : List Addr}
theorem wipeE_get (E : En) (j : Nat) : ∀ vs : List Nat, (wipeE E vs)[j]? = if j ∈ vs then (E[j]?).map fun _ => none else E[j]?
  | [] => by simp [wipeE]
  | v :: vs => by
    have ih := wipeE_get E j vs
    unfold wipeE
    rw [List.getElem?_set]
    by_cases h : v = j
    · subst h
      have hl : (wipeE E vs).length = E.length := by
        clear ih
        induction vs with
        | nil => rfl
        | cons a r ih => unfold wipeE; rw [List.length_set]; exact ih
      rw [if_pos rfl, if_pos List.mem_cons_self]
      by_cases hv : v < E.length
      · rw [if_pos (by omega), List.getElem?_eq_getElem hv]; rfl
      · rw [if_neg (by omega), List.getElem?_eq_none (by omega)]; rfl
    · rw [if_neg h, ih]
      by_cases hj : j ∈ vs
      · rw [if_pos hj, if_pos (List.mem_cons_of_mem _ hj)]
      · rw [if_neg hj, if_neg (by simp [Ne.symm h, hj])]
theorem wipe_get (S : L2.St) (j : Nat) : ∀ vs : List Nat, (L2.wipe S vs)[j]? = if j ∈ vs then (S[j]?).map fun _ => none else S[j]?
  | [] => by simp [L2.wipe]
  | v :: vs => by
    have ih := wipe_get S j vs
    unfold L2.wipe
    rw [List.getElem?_set]
    by_cases h : v = j
    · subst h
      have hl := wipe_length S vs
      rw [if_pos rfl, if_pos List.mem_cons_self]
      by_cases hv : v < S.length
      · rw [if_pos (by omega), List.getElem?_eq_getElem hv]; rfl
      · rw [if_neg (by omega), List.getElem?_eq_none (by omega)]; rfl
    · rw [if_neg h, ih]
      by_cases hj : j ∈ vs
      · rw [if_pos hj, if_pos (List.mem_cons_of_mem _ hj)]
      · rw [if_neg hj, if_neg (by simp [Ne.symm h, hj])]
theorem wipe_df {sl vs : List Nat} {σ σ2 : L2.St} (d : Df sl σ σ2) (h : ∀ i ∈ sl, i ∈ vs) : L2.wipe σ2 vs = L2.wipe σ vs := by
  apply List.ext_getElem?
  intro j
  rw [wipe_get, wipe_get]
  by_cases hj : j ∈ vs
  · rw [if_pos hj, if_pos hj]
    by_cases hl : j < σ.length
    · rw [List.getElem?_eq_getElem hl, List.getElem?_eq_getElem (by rw [d.1]; exact hl)]; rfl
    · rw [List.getElem?_eq_none (l := σ) (by omega), List.getElem?_eq_none (l := σ2) (by rw [d.1]; omega)]
  · rw [if_neg hj, if_neg hj, d.2 j fun q => hj (h j q)]
theorem wipe_wipe {vs : List Nat} {σ : L2.St} : L2.wipe (L2.wipe σ vs) vs = L2.wipe σ vs := by
  apply List.ext_getElem?
  intro j
  rw [wipe_get, wipe_get]
  by_cases hj : j ∈ vs
  · rw [if_pos hj]
    simp only [if_pos hj, Option.map_map]
    rfl
  · rw [if_neg hj]
theorem RepE.swapS {E : En} {S S' : L2.St} {f : List Addr} (hl : S'.length = S.length) (h : ∀ (j : Nat) (o : O), E[j]? = some (some o) → S'[j]? = S[j]?) (r : RepE K ad F H E S f) : RepE K ad F H E S' f := by
  induction r generalizing S' with
  | nil => cases S' with
    | nil => exact .nil
    | cons _ _ => simp at hl
  | skip r ih => cases S' with
    | nil => simp at hl
    | cons y S' => exact .skip (ih (by simpa using hl) fun j o e => by simpa using h (j + 1) o (by simpa using e))
  | put q r ih => cases S' with
    | nil => simp at hl
    | cons y S' =>
      have e := h 0 _ rfl
      simp at e
      subst e
      exact .put q (ih (by simpa using hl) fun j o e => by simpa using h (j + 1) o (by simpa using e))
theorem wipeE_none {E : En} {vs : List Nat} {j : Nat} {o : O} (e : (wipeE E vs)[j]? = some (some o)) : j ∉ vs := fun h => by
  rw [wipeE_get, if_pos h] at e
  cases q : E[j]? with
  | none => rw [q] at e; cases e
  | some x => rw [q] at e; cases e
theorem Ok.wipeS {E : En} {σ σ' : L2.St} {vs : List Nat} (ok : Ok K ad F H (wipeE E vs) σ f) (hl : σ'.length = σ.length) (h : ∀ j, j ∉ vs → σ'[j]? = σ[j]?) : Ok K ad F H (wipeE E vs) σ' f :=
  ⟨ok.sub, ok.rep.swapS hl fun j o e => h j (wipeE_none e), ok.nd, ok.nf⟩
theorem Ok.wipeE {E : En} {σ : L2.St} : ∀ (vs : List Nat) {f : List Addr}, Ok K ad F H E σ f → ∃ g, Ok K ad F H (wipeE E vs) σ g ∧ ∀ x ∈ g, x ∈ f
  | [], f, ok => ⟨f, ok, fun _ h => h⟩
  | v :: vs, f, ok => by
    obtain ⟨g, o1, m1⟩ := Ok.wipeE vs ok
    obtain ⟨g2, o2, m2⟩ := o1.forget v
    exact ⟨g2, o2, fun x hx => m1 x (m2 x hx)⟩
theorem wipe_out {σ : L2.St} {vs : List Nat} : ∀ j, j ∉ vs → (L2.wipe σ vs)[j]? = σ[j]? := fun j h => by rw [wipe_get, if_neg h]
end
/-- nothing may be raised -/
abbrev W0 : WX := fun _ _ _ _ => False
/-- the tests of a comprehension -/
structure SC (X : Cx) (ad : Nat → Addr) (ifs : List Expr) (c : M Bool) : Prop where
  ex : ∃ tt, PTs X ifs tt ∧ ∀ F H E σ f Q, Ok X.K ad F H E σ f → AftT X.K ad W0 F H f σ (c E) Q → tt σ H Q
theorem c_yes {X : Cx} {ad : Nat → Addr} : SC X ad [] mYes := ⟨_, pts_nil, fun F H E σ f Q ok q => q F H f (Step.refl _ _ _) ok⟩
theorem c_if {X : Cx} {ad : Nat → Addr} {e : Expr} {c : M Bool} (h : ST X ad W0 e c) : SC X ad [e] c := by
  obtain ⟨tt, p, q⟩ := h.ex
  exact ⟨tt, pts_one p, q⟩

section
variable {X : Cx} {ad : Nat → Addr} {W : WX} {elt tg iter : Expr} {ifs : List Expr} {scope : Scope} {own : List (Str × Nat)} {pos : Pos} {sl : List Nat} {t : Mt} {mi : M (List D)} {c : M Bool} {m : M O}
/-- what is asked of the parts -/
theorem comp_core {wi : TI} {g : TG} {tt : TT} {te : TE} {vs : List Nat} (hsl : ∀ i ∈ sl, i ∈ vs)
    (qi : ∀ F H E σ f R, Ok X.K ad F H E σ f →
    (match mi E with
      | .ok ds E' => ∀ F' H' f' J, Step F H f F' H' f' → Ok X.K ad F' H' E' σ f' → Wk X.K ad J ds F' → R J H'
      | .exc c E' => ∀ F' H' f', Step F H f F' H' f' → Ok X.K ad F' H' E' σ f' → W (.ref (ad c)) none σ H'
      | .bad => False) → wi σ H R)
    (qg : ∀ F H E σ f o v Q, Ok X.K ad F H (some o :: E) (some v :: σ) f →
    (match t o E with
      | .ok _ E' => ∀ F' H' σ' f', Step F H f F' H' f' → Ok X.K ad F' H' E' σ' f' → Df sl σ σ' → Q σ' H'
      | .exc c E' => ∀ F' H' f', Step F H f F' H' f' → Ok X.K ad F' H' E' σ f' → W0 (.ref (ad c)) none σ H'
      | .bad => False) → g v σ H Q)
    (qt : ∀ F H E σ f Q, Ok X.K ad F H E σ f → AftT X.K ad W0 F H f σ (c E) Q → tt σ H Q)
    (qe : ∀ F H E σ f Q, Ok X.K ad F H E σ f → Aft X.K ad W0 [] [] F H f σ (m E) Q → te σ H Q) :
    ∀ F H E σ f Q, Ok X.K ad F H E σ f → Aft X.K ad W [] [] F H f σ (mComp vs t mi c m E) Q → tLc wi g tt te vs σ H Q := by
  intro F H E σ f Q ok z
  refine qi F H E σ f _ ok ?_
  unfold mComp at z
  cases hm : mi E with
  | exc c E1 => rw [hm] at z; exact fun F' H' f' s o => z F' H' f' s o
  | bad => rw [hm] at z; exact z
  | ok ds E1 =>
    rw [hm, bind_ok] at z
    intro F1 H1 f1 J s1 o1 wk D nD
    obtain ⟨fw, ow, mw⟩ := o1.wipeE vs
    have ow' : Ok X.K ad F1 H1 (Mn.wipeE E1 vs) (L2.wipe σ vs) fw := ow.wipeS (wipe_length _ _) wipe_out
    obtain ⟨sN, oN⟩ := Ok.newLst (os := []) (vs := []) (E := Mn.wipeE E1 vs) (S := L2.wipe σ vs) (P := []) (PS := []) ow' rfl nD
    -- what is wanted of the rest
    let post : Hp → Hp → List Addr → R (List O) → Prop := fun F' H' f' r => match r with
      | .ok os E'' => ∀ F'' H'' f'', Step F' H' f' F'' H'' f'' → Ok X.K ad F'' H'' (some (.lst os) :: E'') (some (.ref D) :: L2.wipe σ vs) f'' → Q (.ref D) H''
      | _ => False
    have fin : ∀ F' H' f' os E'', Step F1 (upd H1 D (.lst [])) (D :: fw) F' H' f' → Ok X.K ad F' H' (some (.lst os) :: Mn.wipeE E'' vs) (some (.ref D) :: L2.wipe σ vs) f' → Ok X.K ad F' H' (some (.lst os) :: Mn.wipeE E'' vs) (some (.ref D) :: σ) f' := fun F' H' f' os E'' s o => by
      refine ⟨o.sub, o.rep.swapS (by simp [wipe_length]) fun j x e => ?_, o.nd, o.nf⟩
      cases j with
      | zero => rfl
      | succ j =>
        have := wipeE_none (E := E'') (vs := vs) (j := j) (by simpa using e)
        simpa using (wipe_out (σ := σ) j this).symm
    have p0 : post F1 (upd H1 D (.lst [])) (D :: fw) (cIter vs t c m ds [] (Mn.wipeE E1 vs)) := by
      show (match cIter vs t c m ds [] (Mn.wipeE E1 vs) with
        | .ok os E'' => ∀ F'' H'' f'', Step F1 (upd H1 D (.lst [])) (D :: fw) F'' H'' f'' → Ok X.K ad F'' H'' (some (.lst os) :: E'') (some (.ref D) :: L2.wipe σ vs) f'' → Q (.ref D) H''
        | _ => False)
      cases hc : cIter vs t c m ds [] (Mn.wipeE E1 vs) with
      | exc c E2 => rw [hc] at z; exact z
      | bad => rw [hc] at z; exact z
      | ok os E2 =>
        rw [hc, only_ok] at z
        intro F'' H'' f'' s o
        -- its names of its own are none
        have hw : ∃ E3, E2 = Mn.wipeE E3 vs := by
          have gen : ∀ (ds : List Mn.D) (acc : List O) (E0 : En) (os : List O) (E2 : En), cIter vs t c m ds acc E0 = .ok os E2 → ∃ E3, E2 = Mn.wipeE E3 vs := by
            intro ds
            induction ds with
            | nil => intro acc E0 os E2 h; unfold cIter at h; cases h; exact ⟨E0, rfl⟩
            | cons d ds ih =>
              intro acc E0 os E2 h
              unfold cIter at h
              cases h1 : t (.fz d) E0 with
              | exc _ _ => rw [h1] at h; cases h
              | bad => rw [h1] at h; cases h
              | ok u Ea =>
                rw [h1, only_ok] at h
                cases h2 : c Ea with
                | exc _ _ => rw [h2] at h; cases h
                | bad => rw [h2] at h; cases h
                | ok b Eb =>
                  rw [h2, only_ok] at h
                  cases b with
                  | false => exact ih _ _ _ _ h
                  | true =>
                    simp only [if_true] at h
                    cases h3 : m Eb with
                    | exc _ _ => rw [h3] at h; cases h
                    | bad => rw [h3] at h; cases h
                    | ok o Ec =>
                      rw [h3, only_ok] at h
                      split at h
                      · exact ih _ _ _ _ h
                      · cases h
          exact gen _ _ _ _ _ hc
        obtain ⟨E3, rfl⟩ := hw
        exact z F'' H'' (.ref D) f'' (s1.trans ((Step.perm mw).trans (sN.trans s))) (fin F'' H'' f'' os E3 s o)
    refine ⟨fun i k H' => k = ds.length - i ∧ i ≤ ds.length ∧ ∃ F' E' acc f', Same F1 F' ∧ Ok X.K ad F' H' (some (.lst acc) :: Mn.wipeE E' vs) (some (.ref D) :: L2.wipe σ vs) f' ∧ post F' H' f' (cIter vs t c m (ds.drop i) acc (Mn.wipeE E' vs)), ⟨ds.length, by simp, Nat.zero_le _, F1, E1, [], D :: fw, Same.refl _, oN, by simpa using p0⟩, ?_⟩
    rintro i k H' ⟨rfl, hi, F', E', acc, f', sF, ok', z'⟩
    by_cases hlt : i < ds.length
    · refine .inr ⟨wk.go i F' H' hlt sF ok'.sub, fun H2 => i + 1 ≤ ds.length ∧ ∃ F' E' acc f', Same F1 F' ∧ Ok X.K ad F' H2 (some (.lst acc) :: Mn.wipeE E' vs) (some (.ref D) :: L2.wipe σ vs) f' ∧ post F' H2 f' (cIter vs t c m (ds.drop (i + 1)) acc (Mn.wipeE E' vs)), fun H2 h => ⟨ds.length - (i + 1), by omega, rfl, h⟩, fun x H3 y => ?_⟩
      obtain ⟨F3, d, hd, s2, h2, sub3, g3, t3, q3⟩ := wk.yld i F' H' x H3 hlt sF ok'.sub y
      have e1 : ds.drop i = d :: ds.drop (i + 1) := by
        rw [List.drop_eq_getElem_cons hlt]
        congr 1
        rw [List.getElem?_eq_getElem hlt] at hd
        exact Option.some.inj hd
      have st3 : Step F' H' f' F3 H3 f' := Step.same s2 h2 g3 t3
      have ok3 : Ok X.K ad F3 H3 (some (.lst acc) :: Mn.wipeE E' vs) (some (.ref D) :: L2.wipe σ vs) f' := ⟨sub3, ok'.rep.mono s2 fun a ha u e => h2 a u e, ok'.nd, fun a ha => by
        obtain ⟨u, e⟩ := ok'.rep.trk a ha
        exact g3 a u e (ok'.nf a ha)⟩
      rw [e1] at z'
      have pstep : ∀ {Fa Ha Fb Hb : Hp} {fa fb : List Addr} {r : R (List O)}, post Fa Ha fa r → Step Fa Ha fa Fb Hb fb → post Fb Hb fb r := fun {Fa Ha Fb Hb fa fb r} p s => by
        cases r with
        | ok os E'' => exact fun F'' H'' f'' s' o => p F'' H'' f'' (s.trans s') o
        | exc _ _ => exact p
        | bad => exact p
      unfold cIter at z'
      -- the target, beside the new list
      obtain ⟨fa, oa, ma, ka⟩ := Ok.frame' (P := [some (.lst acc)]) (PS := [some (.ref D)]) rfl ok3
      refine qg F3 H3 (Mn.wipeE E' vs) (L2.wipe σ vs) fa (.fz d) x _ (oa.dat q3) ?_
      cases ht : t (.fz d) (Mn.wipeE E' vs) with
      | exc c E2 => rw [ht] at z'; exact z'.elim
      | bad => rw [ht] at z'; exact z'.elim
      | ok u E2 =>
        rw [ht, only_ok] at z'
        intro F4 H4 σ4 f4 s4 o4 d4
        obtain ⟨g4, o4b, s4b⟩ := ka s4 o4
        have ew : L2.wipe σ4 vs = L2.wipe σ vs := (wipe_df d4 hsl).trans wipe_wipe
        refine ⟨ew, ?_⟩
        -- the tests
        obtain ⟨fb, ob, mb, kb⟩ := Ok.frame' (P := [some (.lst acc)]) (PS := [some (.ref D)]) rfl o4b
        refine qt F4 H4 E2 σ4 fb _ ob ?_
        cases hc : c E2 with
        | exc c E2 => rw [hc] at z'; exact z'.elim
        | bad => rw [hc] at z'; exact z'.elim
        | ok b E3 =>
          rw [hc, only_ok] at z'
          intro F5 H5 f5 s5 o5
          obtain ⟨g5, o5b, s5b⟩ := kb s5 o5
          cases b with
          | false =>
            refine iteF ⟨hlt, ?_⟩
            obtain ⟨fc, oc, mc⟩ := Ok.wipeE vs o5
            have oc' : Ok X.K ad F5 H5 (Mn.wipeE E3 vs) (L2.wipe σ vs) fc := oc.wipeS (by rw [wipe_length, d4.1, wipe_length]) fun j hj => by rw [← ew, wipe_out j hj]
            obtain ⟨g6, o6, s6⟩ := kb (s5.trans (Step.perm mc)) oc'
            exact ⟨F5, E3, acc, g6, sF.trans (s2.trans (s4.f.trans s5.f)), o6, pstep z' (st3.trans (s4b.trans s6))⟩
          | true =>
            simp only [if_true] at z'
            refine iteT ?_
            obtain ⟨fd, od, md, kd⟩ := Ok.frame' (P := [some (.lst acc)]) (PS := [some (.ref D)]) rfl o5b
            refine qe F5 H5 E3 σ4 fd _ od ?_
            cases he : m E3 with
            | exc c E2 => rw [he] at z'; exact z'.elim
            | bad => rw [he] at z'; exact z'.elim
            | ok o E4 =>
              rw [he, only_ok] at z'
              intro F6 H6 w f6 s6 o6
              by_cases hz : acc.length < sizeLine
              · rw [if_pos hz] at z'
                -- its own names are gone, then the new item is laid
                obtain ⟨fe, oe, me, ke⟩ := Ok.frame' (P := [some o]) (PS := [some w]) rfl o6
                obtain ⟨ff, of, mf⟩ := Ok.wipeE vs oe
                have of' : Ok X.K ad F6 H6 (Mn.wipeE E4 vs) (L2.wipe σ vs) ff := of.wipeS (by rw [wipe_length, d4.1, wipe_length]) fun j hj => by rw [← ew, wipe_out j hj]
                obtain ⟨g7, o7, s7⟩ := ke (Step.perm mf) of'
                obtain ⟨g8, o8, s8⟩ := kd (s6.trans s7) o7
                obtain ⟨a, vs', fo, fx, f2, ea, rfl, h, rl, rx, rE⟩ := Ok.lstParts (xs := [o]) (vx := [w]) o8 rfl
                have ea : D = a := by cases ea; rfl
                subst ea
                have el := rl.length
                have wr := Ok.write (n := .lst (vs' ++ [w])) (o := .lst acc) (o' := .lst (acc ++ [o])) (res := .fz .non) (v := .non) (fr := []) (fo' := fo ++ fx) o8.sub o8.nd o8.nf (by rw [h]; simp) rE (rl.tracked rx) (.fz .non)
                  (by simpa using nodup_mid o8.nd) (fun z hz => by simpa using hz) fun H' kp ha => .lst ha ((rl.append rx).mono (Same.refl _) fun z hz u e => kp z u (not_a o8.nd z hz) e)
                obtain ⟨g9, o9, s9⟩ := wr.2.tl'
                refine ⟨vs', h, by omega, hlt, F6, E4, acc ++ [o], g9, sF.trans (s2.trans (s4.f.trans (s5.f.trans s6.f))), o9, ?_⟩
                exact pstep z' (st3.trans (s4b.trans (s5b.trans (s8.trans (wr.1.trans s9)))))
              · rw [if_neg hz] at z'; exact z'.elim
    · have e : i = ds.length := by omega
      subst e
      refine .inl ⟨wk.stop F' H' sF ok'.sub, ?_⟩
      rw [List.drop_length] at z'
      unfold cIter at z'
      have o2 : Ok X.K ad F' H' (some (.lst acc) :: Mn.wipeE (Mn.wipeE E' vs) vs) (some (.ref D) :: L2.wipe σ vs) f' := by
        have : Mn.wipeE (Mn.wipeE E' vs) vs = Mn.wipeE E' vs := by
          apply List.ext_getElem?
          intro j
          rw [wipeE_get, wipeE_get]
          by_cases hj : j ∈ vs
          · simp only [if_pos hj, Option.map_map]; rfl
          · rw [if_neg hj]
        rw [this]
        exact ok'
      exact z' F' H' f' (Step.refl _ _ _) o2
/-- the readings, told by the meanings alone -/
def teOf (K : PySem.W.Frag) (ad : Nat → Addr) (W : WX) (m : M O) : TE := fun σ H Q => ∃ F E f, Ok K ad F H E σ f ∧ Aft K ad W [] [] F H f σ (m E) Q
theorem SE.canon {X : Cx} {e : Expr} (h : SE X ad W e m) : PE X e (teOf X.K ad W m) := by
  obtain ⟨te, p, q⟩ := h.ex
  exact PE.imp p fun σ H Q ⟨F, E, f, ok, a⟩ => q F H E σ f Q ok a
def ttOf (K : PySem.W.Frag) (ad : Nat → Addr) (c : M Bool) : TT := fun σ H Q => ∃ F E f, Ok K ad F H E σ f ∧ AftT K ad W0 F H f σ (c E) Q
theorem SC.canon {X : Cx} {ifs : List Expr} (h : SC X ad ifs c) : PTs X ifs (ttOf X.K ad c) := by
  obtain ⟨tt, p, q⟩ := h.ex
  exact ⟨fun pins s σ H Q I ⟨F, E, f, ok, a⟩ => p.run pins s σ H Q I (q F H E σ f Q ok a)⟩
def tgOf (K : PySem.W.Frag) (ad : Nat → Addr) (W : WX) (sl : List Nat) (t : Mt) : TG := fun v σ H Q => ∃ F E f o, Ok K ad F H (some o :: E) (some v :: σ) f ∧
  match t o E with
    | .ok _ E' => ∀ F' H' σ' f', Step F H f F' H' f' → Ok K ad F' H' E' σ' f' → Df sl σ σ' → Q σ' H'
    | .exc c E' => ∀ F' H' f', Step F H f F' H' f' → Ok K ad F' H' E' σ f' → W (.ref (ad c)) none σ H'
    | .bad => False
theorem SG.canon {X : Cx} {tg : Expr} (h : SG X ad W sl tg t) : PG X tg (tgOf X.K ad W sl t) := by
  obtain ⟨g, p, q⟩ := h.ex
  exact ⟨fun pins s σ H v u Q I r ⟨F, E, f, o, ok, a⟩ => p.run pins s σ H v u Q I r (q F H E σ f o v Q ok a)⟩
theorem s_comp (hc : X.calm = true) (hN : X.N.Nodup) (own : List (Str × Nat)) (hi : SI X ad W tg iter mi)
    (hg : ∀ (s : Shared) (H : Hp) (C : Addr) (cl : List (Str × Addr)) (fp : List Addr), SG (X.blk s H scope (compEnvC scope cl C X.env) fp) ad W0 sl tg t)
    (ht : ∀ (s : Shared) (H : Hp) (C : Addr) (cl : List (Str × Addr)) (fp : List Addr), SC (X.blk s H scope (compEnvC scope cl C X.env) fp) ad ifs c)
    (he : ∀ (s : Shared) (H : Hp) (C : Addr) (cl : List (Str × Addr)) (fp : List Addr), SE (X.blk s H scope (compEnvC scope cl C X.env) fp) ad W0 elt m)
    (ok : BlkOk X.N X.env.scope scope own) (hsl : ∀ i ∈ sl, i ∈ own.map (·.2) := by decide)
    (hs : ∀ x, foldedSetIterable iter X.env x = pure x := by intro _; rfl) : SE X ad W (.ListComp elt [⟨tg, iter, ifs, 0⟩] scope pos) (mComp (own.map (·.2)) t mi c m) := by
  obtain ⟨wi, pi, qi⟩ := hi.ex
  refine ⟨_, pe_lc (g := tgOf X.K ad W0 sl t) (tt := ttOf X.K ad c) (te := teOf X.K ad W0 m) hc hN pi ok (fun s H C cl fp => (hg s H C cl fp).canon) (fun s H C cl fp => (ht s H C cl fp).canon) (fun s H C cl fp => (he s H C cl fp).canon) hs, ?_⟩
  exact comp_core hsl qi (fun F H E σ f o v Q ok a => ⟨F, E, f, o, ok, a⟩) (fun F H E σ f Q ok a => ⟨F, E, f, ok, a⟩) (fun F H E σ f Q ok a => ⟨F, E, f, ok, a⟩)
/-- name = [..] -/
theorem z_comp {io : List Nat} {i : Nat} {y : Str} {py spos : Pos} (hc : X.calm = true) (hN : X.N.Nodup) (own : List (Str × Nat)) (hi : SI X ad W tg iter mi)
    (hg : ∀ (s : Shared) (H : Hp) (C : Addr) (cl : List (Str × Addr)) (fp : List Addr), SG (X.blk s H scope (compEnvC scope cl C X.env) fp) ad W0 sl tg t)
    (ht : ∀ (s : Shared) (H : Hp) (C : Addr) (cl : List (Str × Addr)) (fp : List Addr), SC (X.blk s H scope (compEnvC scope cl C X.env) fp) ad ifs c)
    (he : ∀ (s : Shared) (H : Hp) (C : Addr) (cl : List (Str × Addr)) (fp : List Addr), SE (X.blk s H scope (compEnvC scope cl C X.env) fp) ad W0 elt m)
    (hy : X.N[i]? = some y) (hyl : X.env.scope.names.lookup y = some .local) (ok : BlkOk X.N X.env.scope scope own) 
    (hsw : swapsWith (.ListComp elt [⟨tg, iter, ifs, 0⟩] scope pos) (some (.Name y py)) spos.line X.env = pure true) (hsl : ∀ i ∈ sl, i ∈ own.map (·.2) := by decide) (h0 : ∀ j ∈ io, j ≠ i := by decide)
    (hs : ∀ x, foldedSetIterable iter X.env x = pure x := by intro _; rfl) : SS X ad W io (.Assign [.Name y py] (.ListComp elt [⟨tg, iter, ifs, 0⟩] scope pos) spos) (mAsg (tName i) (mComp (own.map (·.2)) t mi c m)) := by
  obtain ⟨wi, pi, qi⟩ := hi.ex
  refine ⟨_, ps_setLc (g := tgOf X.K ad W0 sl t) (tt := ttOf X.K ad c) (te := teOf X.K ad W0 m) hc hN hy hyl hsw pi ok (fun s H C cl fp => (hg s H C cl fp).canon) (fun s H C cl fp => (ht s H C cl fp).canon) (fun s H C cl fp => (he s H C cl fp).canon) hs, ?_⟩
  refine asg_core (sl := [i]) (W := W) (fun j hj => by simpa using h0 j hj) (comp_core hsl qi (fun F H E σ f o v Q ok a => ⟨F, E, f, o, ok, a⟩) (fun F H E σ f Q ok a => ⟨F, E, f, ok, a⟩) (fun F H E σ f Q ok a => ⟨F, E, f, ok, a⟩)) ?_
  intro F H E σ f o v Q ok q
  obtain ⟨g, o2, ms⟩ := ok.assign i
  refine q F H _ g (Step.perm ms) o2 ⟨by simp, fun j h => ?_⟩
  rw [List.getElem?_set_ne fun e => h (by simp [e])]
end
end Mn

set_option Elab.async false
set_option linter.all false
set_option maxRecDepth 100000
set_option maxHeartbeats 4000000
namespace Mn
open PySem PySem.Spec PyProof.Rows L2

/-! ### a def -/
def fnOf (io : Bool) (n : Nat) (b : Ms) : List O → Cr := fun os => match b (os.map some ++ List.replicate n none) with
  | .ret o E => .ok o (if io then E.head?.join else none)
  | .next E => .ok (.fz .non) (if io then E.head?.join else none)
  | .exc c _ => .exc c
  | _ => .bad
section
variable {P : Program} {w : World} {K : PySem.W.Frag} {mg : Str → Option Value} {base : Heap} {ad : Nat → Addr}
theorem start_app (N : List Str) (vs : List V) : start N vs = vs.map some ++ List.replicate (N.length - vs.length) none := rfl
theorem RepE.nones {F H : Hp} : ∀ (n : Nat) (S : L2.St), S.length = n → RepE K ad F H (List.replicate n none) S []
  | 0, [], _ => .nil
  | 0, _ :: _, h => by simp at h
  | n + 1, [], h => by simp at h
  | n + 1, _ :: S, h => .skip (RepE.nones n S (by simpa using h))
theorem end_ok {F H : Hp} {o : O} {v : V} {E : En} {σ : L2.St} {vs : List V} {f : List Addr} {io : Bool} (ok : Ok K ad F H (some o :: E) (some v :: σ) f) (h : io = true → σ[0]? = (vs.map some)[0]?) : ∃ g, Ok K ad F H [some o, if io then E.head?.join else none] [some v, vs.head?] g ∧ ∀ x ∈ g, x ∈ f := by
  have hl : E.length = σ.length := by simpa using ok.rep.length
  have only : ∃ g, Ok K ad F H [some o, none] [some v, vs.head?] g ∧ ∀ x ∈ g, x ∈ f := by
    obtain ⟨f1, o1, m1, _⟩ := Ok.front (E1 := [some o]) (S1 := [some v]) (E := E) (S := σ) rfl ok
    refine ⟨f1, ⟨o1.sub, ?_, o1.nd, o1.nf⟩, m1⟩
    have := RepE.append o1.rep (RepE.skip (x := vs.head?) RepE.nil)
    simpa using this
  cases io with
  | false => exact only
  | true =>
    have h := h rfl
    cases E with
    | nil => exact only
    | cons x E =>
      cases σ with
      | nil => simp at hl
      | cons y σ =>
        cases x with
        | none => exact only
        | some s =>
          have hy : y = vs.head? := by
            cases vs with
            | nil => simp at h
            | cons v0 vs => simpa using h
          subst hy
          obtain ⟨f1, o1, m1, _⟩ := Ok.front (E1 := [some o, some s]) (S1 := [some v, vs.head?]) (E := E) (S := σ) rfl ok
          exact ⟨f1, o1, m1⟩
/-- a def by its body -/
theorem fn_body {x qual : Str} {params : Arguments} {body : List Stmt} {scope : Scope} {kws : List (Str × V)} {f : Addr} {fd : FuncData} {N ps : List Str} {k : Nat} (F : FunD K x qual params body scope [] kws f fd) (S : FnScope N ps scope) (io : Bool) (n : Nat) (hn : N.length = ps.length + n) (b : Ms)
    (hio : io = true → ps ≠ [])
    (hb : ∀ (cdv : Value) (A : Around) (outer : List Env) (s : Shared) (H : Hp) (E : XK) (W : WX), Room k (A.deeper (envOfC qual scope s.heap.objs.size f cdv)) →
      PassesOwn (model P w) (cxOf (L2.CX P w) P w K mg base N qual scope f cdv A outer s H E).A (cxOf (L2.CX P w) P w K mg base N qual scope f cdv A outer s H E).env (cxOf (L2.CX P w) P w K mg base N qual scope f cdv A outer s H E).xe →
      Takes (cxOf (L2.CX P w) P w K mg base N qual scope f cdv A outer s H E) W → SSs (cxOf (L2.CX P w) P w K mg base N qual scope f cdv A outer s H E) ad W (cond io [0] []) body b) :
    FnOk P w K mg base (L2.CX P w) (k + 1) f fd ps (spOf K ad ps.length (fnOf io n b)) := by
  refine F.ok S (fun vs H Q E h => ?_) (fun cdv A outer s H vs Q E hr h => ?_)
  · obtain ⟨F0, os, f0, h1, h2, _⟩ := h
    omega
  · obtain ⟨F0, os, f0, h1, h2, ok, q⟩ := h
    obtain ⟨ts, pts, qts⟩ := (hb cdv A outer s H E (fun cls d _ H' => E cls d H') hr (passes_of rfl) (takes_of rfl rfl rfl rfl)).ex
    refine ⟨ts, pts, ?_⟩
    have ok2 : Ok K ad F0 H (os.map some ++ List.replicate n none) (start N vs) f0 := by
      rw [start_app]
      have e : N.length - vs.length = n := by omega
      rw [e]
      have r := RepE.append ok.rep (RepE.nones (K := K) (ad := ad) (F := F0) (H := H) n (List.replicate n none) (by simp))
      rw [List.append_nil] at r
      exact ⟨ok.sub, r, ok.nd, ok.nf⟩
    have h0 : ∀ σ' : L2.St, Pr (cond io [0] []) (start N vs) σ' → io = true → vs ≠ [] → σ'[0]? = (vs.map some)[0]? := fun σ' p hio hne => by
      subst hio
      rw [p 0 (by simp), start_app]
      cases vs with
      | nil => exact absurd rfl hne
      | cons v0 vs => rfl
    have fin : ∀ {F' H' : Hp} {σ' : L2.St} {o : O} {v : V} {E' : En} {f' : List Addr}, Ok K ad F' H' (some o :: E') (some v :: σ') f' → Pr (cond io [0] []) (start N vs) σ' → ∃ g, Ok K ad F' H' [some o, if io then E'.head?.join else none] [some v, vs.head?] g ∧ ∀ x ∈ g, x ∈ f' := fun {F' H' σ' o v E' f'} o' p => by
      refine end_ok o' fun hio' => h0 σ' p hio' fun e => hio hio' ?_
      subst e
      have : ps.length = 0 := by simpa [← h2] using h1.symm
      exact List.length_eq_zero_iff.mp this
    unfold fnOf at q
    refine qts F0 H _ _ f0 _ ok2 ?_
    cases hbb : b (os.map some ++ List.replicate n none) with
    | next E' =>
      rw [hbb] at q
      intro F' H' σ' f' st o' p
      obtain ⟨g, o2, m2⟩ := fin (o'.dat .non) p
      exact q F' H' .non g (st.less m2) o2
    | ret o E' =>
      rw [hbb] at q
      intro F' H' σ' v f' st o' p
      obtain ⟨g, o2, m2⟩ := fin o' p
      exact q F' H' v g (st.less m2) o2
    | brk E' => rw [hbb] at q; exact q.elim
    | cont E' => rw [hbb] at q; exact q.elim
    | exc c E' =>
      rw [hbb] at q
      intro F' H' σ' f' st o'
      exact q F' H' (st.less fun x hx => absurd hx (by simp)) o'.sub
    | bad => rw [hbb] at q; exact q.elim
end
end Mn

set_option Elab.async false
set_option linter.all false
set_option maxRecDepth 100000
set_option maxHeartbeats 4000000
namespace Mn
open PySem PySem.Spec PyProof.Rows L2

/-! ### two operands that are only read -/
structure BPrm (X : Cx) (ad : Nat → Addr) (r : R2) (g : D → D → Option D) : Prop where
  ok : ∀ H a b x y d Q, Is X.K ad H a x → Is X.K ad H b y → g a b = some d → (∀ v, (∀ F, Is X.K ad F d v) → Q v H) → r x y H Q
def g2 (g : D → D → Option D) : List O → Option O := fun os => match os with
  | [a, b] => (g a.toD b.toD).map O.fz
  | _ => none
section
variable {X : Cx} {ad : Nat → Addr}
theorem BPrm.prm {r : R2} {g : D → D → Option D} (p : BPrm X ad r g) : Prm X ad (r2 r) (g2 g) := by
  have h := prm_rd (X := X) (ad := ad) (r := r2 r) (g := fun ds => match ds with
    | [a, b] => g a b
    | _ => none) (fun H ds vs d Q rl e q => by
    match ds, rl, e with
    | [a, b], .cons (v := x) ra (.cons (v := y) rb .nil), e => exact ⟨x, y, rfl, p.ok H a b x y d Q ra rb e q⟩)
  refine ⟨fun F H os vs E σ f Q ok hl q => h.ok F H os vs E σ f Q ok hl ?_⟩
  match os, q with
  | [a, b], q => simpa [g2, O.toDs] using q
  | [], q => exact q.elim
  | [_], q => exact q.elim
  | _ :: _ :: _ :: _, q => exact q.elim
theorem BPrm.or {r r' : R2} {g g' : D → D → Option D} (p : BPrm X ad r g) (p' : BPrm X ad r' g') : BPrm X ad (fun x y H Q => r x y H Q ∨ r' x y H Q) (fun a b => match g a b with
    | some d => some d
    | none => g' a b) := by
  refine ⟨fun H a b x y d Q ra rb e q => ?_⟩
  cases h : g a b with
  | some d' =>
    simp only [h] at e
    exact .inl (p.ok H a b x y d Q ra rb (h.trans e) q)
  | none =>
    simp only [h] at e
    exact .inr (p'.ok H a b x y d Q ra rb e q)
end

/-! ### == -/
def sEq : D → D → Option Bool
  | .non, .non => some true
  | .int i, .int j => some (decide (i = j))
  | .bl i, .bl j => some (decide (i = j))
  | .str i, .str j => some (decide (i = j))
  | .non, .int _ | .int _, .non | .non, .bl _ | .bl _, .non | .non, .str _ | .str _, .non | .int _, .str _ | .str _, .int _ | .bl _, .str _ | .str _, .bl _ => some false
  | _, _ => none
def qEq (n : Bool) (a b : D) : Option D := match sEq a b with
  | some k => some (.bl (k != n))
  | none => (dEq a b).map fun k => .bl (k != n)
section
variable {X : Cx} {ad : Nat → Addr}
theorem sEq_ok {K : PySem.W.Frag} {H : Hp} {a b : D} {x y : V} {k : Bool} (ra : Is K ad H a x) (rb : Is K ad H b y) (e : sEq a b = some k) : scal x y = true ∧ decide (x = y) = k := by
  cases ra <;> cases rb <;> simp only [sEq] at e <;> (first | cases e | skip) <;> first
    | exact ⟨rfl, by simp⟩
    | skip
theorem b_eq : BPrm X ad (fun x y H Q => rEq x y H Q ∨ rEqD X.K x y H Q) (qEq false) := by
  refine ⟨fun H a b x y d Q ra rb e q => ?_⟩
  unfold qEq at e
  cases h : sEq a b with
  | some k =>
    rw [h] at e
    cases e
    obtain ⟨h1, h2⟩ := sEq_ok ra rb h
    refine .inl ⟨h1, ?_⟩
    rw [h2]
    exact q _ fun F => by simpa using Is.bl (K := X.K) (ad := ad) (H := F) k
  | none =>
    rw [h] at e
    cases hk : dEq a b with
    | none => rw [hk] at e; cases e
    | some k =>
      rw [hk] at e; cases e
      obtain ⟨u, w, h1, h2, h3, h4, h5⟩ := dEq_core ra rb hk
      refine .inr ⟨u, w, h1, h2, h3, h4, ?_⟩
      rw [h5]
      exact q _ fun F => by simpa using Is.bl (K := X.K) (ad := ad) (H := F) k
theorem b_ne : BPrm X ad (fun x y H Q => rNe x y H Q ∨ rNeD X.K x y H Q) (qEq true) := by
  refine ⟨fun H a b x y d Q ra rb e q => ?_⟩
  unfold qEq at e
  cases h : sEq a b with
  | some k =>
    rw [h] at e
    cases e
    obtain ⟨h1, h2⟩ := sEq_ok ra rb h
    refine .inl ⟨h1, ?_⟩
    rw [h2]
    exact q _ fun F => by simpa using Is.bl (K := X.K) (ad := ad) (H := F) (!k)
  | none =>
    rw [h] at e
    cases hk : dEq a b with
    | none => rw [hk] at e; cases e
    | some k =>
      rw [hk] at e; cases e
      obtain ⟨u, w, h1, h2, h3, h4, h5⟩ := dEq_core ra rb hk
      refine .inr ⟨u, w, h1, h2, h3, h4, ?_⟩
      rw [h5]
      exact q _ fun F => by simpa using Is.bl (K := X.K) (ad := ad) (H := F) (!k)
theorem o_eq (hu : X.A.units + 64 < cLine) : OpR X (compareOp .Eq) (fun x y H Q => rEq x y H Q ∨ rEqD X.K x y H Q) := op_eq.or (op_eqD hu)
theorem o_ne (hu : X.A.units + 64 < cLine) : OpR X (compareOp .NotEq) (fun x y H Q => rNe x y H Q ∨ rNeD X.K x y H Q) := op_ne.or (op_neD hu)

/-! ### is -/
def qIs (n : Bool) (a b : D) : Option D := match a, b with
  | .bl i, .bl j => some (.bl (decide (i = j) != n))
  | .non, .non => some (.bl (!n))
  | .bl _, .non | .int _, .non | .str _, .non | .tup _, .non | .lst _, .non | .dct _, .non => some (.bl n)
  | _, _ => none
theorem b_is : BPrm X ad (fun x y H Q => rIsB x y H Q ∨ (y = .non ∧ Q (.bl (decide (x = .non))) H)) (qIs false) := by
  refine ⟨fun H a b x y d Q ra rb e q => ?_⟩
  cases ra <;> cases rb <;> simp only [qIs] at e <;> (first | cases e | skip) <;> first
    | exact .inl ⟨_, _, rfl, rfl, by simpa using q _ fun F => .bl _⟩
    | exact .inr ⟨rfl, by simpa using q _ fun F => .bl _⟩
theorem b_isnot : BPrm X ad (fun x y H Q => rNotB x y H Q ∨ (y = .non ∧ Q (.bl (!decide (x = .non))) H)) (qIs true) := by
  refine ⟨fun H a b x y d Q ra rb e q => ?_⟩
  cases ra <;> cases rb <;> simp only [qIs] at e <;> (first | cases e | skip) <;> first
    | exact .inl ⟨_, _, rfl, rfl, by simpa using q _ fun F => .bl _⟩
    | exact .inr ⟨rfl, by simpa using q _ fun F => .bl _⟩
theorem o_is : OpR X (compareOp .Is) (fun x y H Q => rIsB x y H Q ∨ (y = .non ∧ Q (.bl (decide (x = .non))) H)) := op_isBl.or op_isN
theorem o_isnot : OpR X (compareOp .IsNot) (fun x y H Q => rNotB x y H Q ∨ (y = .non ∧ Q (.bl (!decide (x = .non))) H)) := op_notBl.or op_notN
end

/-! ### in -/
def D.flat : D → Bool
  | .non | .bl _ | .int _ | .str _ => true
  | _ => false
def eqF : D → D → Bool
  | .non, .non => true
  | .bl a, .bl b => a == b
  | .bl a, .int b => (if a then 1 else 0) == b
  | .int a, .bl b => a == (if b then 1 else 0)
  | .int a, .int b => a == b
  | .str a, .str b => a == b
  | _, _ => false
/-- x among items -/
def inF (x : D) (ds : List D) : Option Bool := if x.flat = true ∧ ds.all D.flat = true then some (ds.any fun d => eqF d x) else none
def lookK : List (KK × D) → KK → Option D
  | [], _ => none
  | (j, d) :: r, k => if j = k then some d else lookK r k
def dIn (x y : D) : Option Bool := match y with
  | .tup ds => match inF x ds with
    | some b => some b
    | none => match x.py, (D.tup ds).py with
      | some a, some (.tuple bs) => if SeqAt.shaped a = true ∧ SeqAt.shaped (.tuple bs) = true then some (bs.any fun z => PyData.eqv z a) else none
      | _, _ => none
  | .lst ds => match inF x ds with
    | some b => some b
    | none => match x.py, (D.lst ds).py with
      | some a, some (.list bs) => if SeqAt.shaped a = true ∧ SeqAt.shaped (.list bs) = true then some (bs.any fun z => PyData.eqv z a) else none
      | _, _ => none
  | .str s => match x with
    | .str [c] => some (decide (c ∈ s))
    | _ => none
  | .dct kvs => (kOf x).map fun k => (lookK kvs k).isSome
  | _ => none
def qIn (n : Bool) (x y : D) : Option D := (dIn x y).map fun k => .bl (k != n)
section
variable {K : PySem.W.Frag} {ad : Nat → Addr} {H : Hp}
theorem flat_ok {a : D} {x : V} (r : Is K ad H a x) (h : a.flat = true) : flatV x = true := by
  cases r <;> first | rfl | cases h
theorem eqF_ok {a b : D} {x y : V} (ra : Is K ad H a x) (rb : Is K ad H b y) (h : a.flat = true) (h' : b.flat = true) : eqV x y = eqF a b := by
  cases ra <;> cases rb <;> first
    | rfl
    | cases h
    | cases h'
    | skip
  next s t =>
    show ((⟨s.toArray⟩ : PySem.Str) == ⟨t.toArray⟩) = (s == t)
    rw [Bool.eq_iff_iff]
    simp
theorem inF_ok {x : D} {u : V} (ru : Is K ad H x u) (hx : x.flat = true) : ∀ {ds : List D} {vs : List V}, IsL K ad H ds vs → ds.all D.flat = true → vs.all flatV = true ∧ inV u vs = ds.any fun d => eqF d x
  | _, _, .nil, _ => ⟨rfl, rfl⟩
  | _, _, .cons (d := d) (v := v) r rs, h => by
    rw [List.all_cons, Bool.and_eq_true] at h
    obtain ⟨h1, h2⟩ := inF_ok ru hx rs h.2
    refine ⟨by rw [List.all_cons, h1, flat_ok r h.1]; rfl, ?_⟩
    show (eqV v u || inV u _) = _
    rw [h2, eqF_ok r ru h.1 hx, List.any_cons]
theorem tk_kV {d : D} {v : V} {k : KK} (r : Is K ad H d v) (h : kOf d = some k) : v = kV (tk k) := by
  cases r <;> simp only [kOf] at h <;> cases h <;> rfl
theorem lookK_ok {k : KK} : ∀ {kvs : List (KK × D)} {ws : List (Key × V)}, IsK K ad H kvs ws → (lookK kvs k = none → valV ws (tk k) = none) ∧ ∀ d, lookK kvs k = some d → ∃ v, valV ws (tk k) = some v ∧ Is K ad H d v
  | _, _, .nil => ⟨fun _ => rfl, fun _ h => by cases h⟩
  | _, _, .cons (k := j) (d := d) (v := v) r rs => by
    obtain ⟨h1, h2⟩ := lookK_ok (k := k) rs
    unfold lookK
    by_cases e : j = k
    · subst e
      refine ⟨fun h => ?_, fun d' h => ?_⟩
      · rw [if_pos rfl] at h; cases h
      · rw [if_pos rfl] at h; cases h; exact ⟨v, valV_pos rfl, r⟩
    · rw [if_neg e]
      have ne : ¬ tk j = tk k := fun h => e (tk_inj h)
      exact ⟨fun h => by rw [valV_neg ne]; exact h1 h, fun d' h => by rw [valV_neg ne]; exact h2 d' h⟩
end
def rDIn (n : Bool) : R2 := fun x y H Q => ∃ a o, y = .ref a ∧ DGet H a x o ∧ Q (.bl (o.isSome != n)) H
def rInT (K : PySem.W.Frag) (n : Bool) : R2 := fun x y H Q => ∃ d ds, Dp K H x d ∧ Dp K H y (.tuple ds) ∧ SeqAt.shaped d = true ∧ SeqAt.shaped (.tuple ds) = true ∧ Q (.bl ((ds.any fun z => PyData.eqv z d) != n)) H
def rIn4 (K : PySem.W.Frag) : R2 := fun x y H Q => rIn K false x y H Q ∨ (rInD K x y H Q ∨ (rInT K false x y H Q ∨ ((∃ (c : Nat) (z : PySem.Str), x = .str ⟨#[c]⟩ ∧ y = .str z ∧ Q (.bl (decide (c ∈ z.cps.toList))) H) ∨ rDIn false x y H Q)))
def rNi4 (K : PySem.W.Frag) : R2 := fun x y H Q => rIn K true x y H Q ∨ (rNotInD K x y H Q ∨ (rInT K true x y H Q ∨ ((∃ (c : Nat) (z : PySem.Str), x = .str ⟨#[c]⟩ ∧ y = .str z ∧ Q (.bl (!decide (c ∈ z.cps.toList))) H) ∨ rDIn true x y H Q)))
section
variable {X : Cx} {ad : Nat → Addr}
theorem o_din (hu : X.A.units + 65 < cLine) : OpR X (compareOp .In) (rDIn false) := by
  intro pins s σ H x y v u Q I rx ry h
  obtain ⟨a, o, rfl, hg, q⟩ := h
  obtain rfl : u = Value.ref a := ry
  exact d_in (by omega) I hg rx fun s' I' => ⟨.bl _, H, I', rfl, by simpa using q⟩
theorem o_dni (hu : X.A.units + 65 < cLine) : OpR X (compareOp .NotIn) (rDIn true) := by
  intro pins s σ H x y v u Q I rx ry h
  obtain ⟨a, o, rfl, hg, q⟩ := h
  obtain rfl : u = Value.ref a := ry
  exact d_notIn (by omega) I hg rx fun s' I' => ⟨.bl _, H, I', rfl, by simpa using q⟩
theorem o_tin (hu : X.A.units + 65 < cLine) : OpR X (compareOp .In) (rInT X.K false) := by
  intro pins s σ H x y v u Q I rx ry h
  obtain ⟨d, ds, hd, he, sd, se, q⟩ := h
  obtain ⟨as, r1⟩ := Dp.reads I d x v hd rx
  obtain ⟨bs, r2⟩ := Dp.reads I (.tuple ds) y u he ry
  exact SeqAt.in_tuple_reads r2 r1 (SeqAt.canLay_of_shaped se) (SeqAt.canLay_of_shaped sd) (room_in_shaped sd hu) ⟨.bl _, H, I, rfl, by simpa using q⟩
theorem o_tni (hu : X.A.units + 65 < cLine) : OpR X (compareOp .NotIn) (rInT X.K true) := by
  intro pins s σ H x y v u Q I rx ry h
  obtain ⟨d, ds, hd, he, sd, se, q⟩ := h
  obtain ⟨as, r1⟩ := Dp.reads I d x v hd rx
  obtain ⟨bs, r2⟩ := Dp.reads I (.tuple ds) y u he ry
  exact SeqAt.notIn_tuple_reads r2 r1 (SeqAt.canLay_of_shaped se) (SeqAt.canLay_of_shaped sd) (room_in_shaped sd hu) ⟨.bl _, H, I, rfl, by simpa using q⟩
theorem o_in (hu : X.A.units + 65 < cLine) : OpR X (compareOp .In) (rIn4 X.K) := op_in_seq.or ((op_inD hu).or ((o_tin hu).or (op_in_sign.or (o_din hu))))
theorem o_ni (hu : X.A.units + 65 < cLine) : OpR X (compareOp .NotIn) (rNi4 X.K) := op_notIn_seq.or ((op_notInD hu).or ((o_tni hu).or (op_notIn_sign.or (o_dni hu))))
theorem inF_core {H : Hp} {x : D} {u : V} {ds : List D} {vs : List V} {k : Bool} (ru : Is X.K ad H x u) (r : IsL X.K ad H ds vs) (h : inF x ds = some k) : flatV u = true ∧ vs.all flatV = true ∧ inV u vs = k := by
  unfold inF at h
  split at h
  · next hh =>
    cases h
    obtain ⟨h1, h2⟩ := inF_ok ru hh.1 r hh.2
    exact ⟨flat_ok ru hh.1, h1, h2⟩
  · cases h
theorem b_in : BPrm X ad (rIn4 X.K) (qIn false) := by
  refine ⟨fun H a b x y d Q ra rb e q => ?_⟩
  unfold qIn at e
  cases hk : dIn a b with
  | none => rw [hk] at e; cases e
  | some k =>
    rw [hk] at e
    cases e
    have q : Q (.bl k) H := by simpa using q (.bl k) fun F => by simpa using Is.bl (K := X.K) (ad := ad) (H := F) k
    cases rb with
    | @tup p ds vs hs r =>
      unfold dIn at hk
      cases hi : inF a ds with
      | some k' =>
        simp only [hi] at hk
        cases hk
        obtain ⟨h1, h2, h3⟩ := inF_core ra r hi
        exact .inl ⟨_, _, rfl, .inr hs, h1, h2, by rw [if_neg Bool.false_ne_true, h3]; exact q⟩
      | none =>
        simp only [hi] at hk
        split at hk
        · next a' bs e1 e2 =>
          split at hk
          · next hh =>
            cases hk
            exact .inr (.inr (.inl ⟨a', bs, ra.dp e1, (Is.tup hs r).dp e2, hh.1, hh.2, by simpa using q⟩))
          · cases hk
        · cases hk
    | @lst p ds vs hs r =>
      unfold dIn at hk
      cases hi : inF a ds with
      | some k' =>
        simp only [hi] at hk
        cases hk
        obtain ⟨h1, h2, h3⟩ := inF_core ra r hi
        exact .inl ⟨_, _, rfl, .inl (.inl (.inl hs)), h1, h2, by rw [if_neg Bool.false_ne_true, h3]; exact q⟩
      | none =>
        simp only [hi] at hk
        split at hk
        · next a' bs e1 e2 =>
          split at hk
          · next hh =>
            cases hk
            exact .inr (.inl ⟨a', bs, ra.dp e1, (Is.lst hs r).dp e2, hh.1, hh.2, q⟩)
          · cases hk
        · cases hk
    | str s =>
      unfold dIn at hk
      simp only at hk
      split at hk
      · next c =>
        cases hk
        cases ra
        exact .inr (.inr (.inr (.inl ⟨c, _, rfl, rfl, by simpa using q⟩)))
      · cases hk
    | dct hs r =>
      unfold dIn at hk
      simp only at hk
      cases hko : kOf a with
      | none => rw [hko] at hk; cases hk
      | some kk =>
        rw [hko] at hk
        cases hk
        obtain ⟨h1, h2⟩ := lookK_ok (k := kk) r
        have e := tk_kV ra hko
        subst e
        refine .inr (.inr (.inr (.inr ⟨_, _, rfl, DGet.k hs, ?_⟩)))
        cases hl : lookK _ kk with
        | none => rw [h1 hl]; simpa [hl] using q
        | some d => obtain ⟨v, e, _⟩ := h2 d hl; rw [e]; simpa [hl] using q
    | _ => cases hk
theorem b_ni : BPrm X ad (rNi4 X.K) (qIn true) := by
  refine ⟨fun H a b x y d Q ra rb e q => ?_⟩
  unfold qIn at e
  cases hk : dIn a b with
  | none => rw [hk] at e; cases e
  | some k =>
    rw [hk] at e
    cases e
    have q : Q (.bl (!k)) H := by simpa using q (.bl (!k)) fun F => by simpa using Is.bl (K := X.K) (ad := ad) (H := F) (!k)
    cases rb with
    | @tup p ds vs hs r =>
      unfold dIn at hk
      cases hi : inF a ds with
      | some k' =>
        simp only [hi] at hk
        cases hk
        obtain ⟨h1, h2, h3⟩ := inF_core ra r hi
        exact .inl ⟨_, _, rfl, .inr hs, h1, h2, by rw [if_pos rfl, h3]; exact q⟩
      | none =>
        simp only [hi] at hk
        split at hk
        · next a' bs e1 e2 =>
          split at hk
          · next hh =>
            cases hk
            exact .inr (.inr (.inl ⟨a', bs, ra.dp e1, (Is.tup hs r).dp e2, hh.1, hh.2, by simpa using q⟩))
          · cases hk
        · cases hk
    | @lst p ds vs hs r =>
      unfold dIn at hk
      cases hi : inF a ds with
      | some k' =>
        simp only [hi] at hk
        cases hk
        obtain ⟨h1, h2, h3⟩ := inF_core ra r hi
        exact .inl ⟨_, _, rfl, .inl (.inl (.inl hs)), h1, h2, by rw [if_pos rfl, h3]; exact q⟩
      | none =>
        simp only [hi] at hk
        split at hk
        · next a' bs e1 e2 =>
          split at hk
          · next hh =>
            cases hk
            exact .inr (.inl ⟨a', bs, ra.dp e1, (Is.lst hs r).dp e2, hh.1, hh.2, q⟩)
          · cases hk
        · cases hk
    | str s =>
      unfold dIn at hk
      simp only at hk
      split at hk
      · next c =>
        cases hk
        cases ra
        exact .inr (.inr (.inr (.inl ⟨c, _, rfl, rfl, by simpa using q⟩)))
      · cases hk
    | dct hs r =>
      unfold dIn at hk
      simp only at hk
      cases hko : kOf a with
      | none => rw [hko] at hk; cases hk
      | some kk =>
        rw [hko] at hk
        cases hk
        obtain ⟨h1, h2⟩ := lookK_ok (k := kk) r
        have e := tk_kV ra hko
        subst e
        refine .inr (.inr (.inr (.inr ⟨_, _, rfl, DGet.k hs, ?_⟩)))
        cases hl : lookK _ kk with
        | none => rw [h1 hl]; simpa [hl] using q
        | some d => obtain ⟨v, e, _⟩ := h2 d hl; rw [e]; simpa [hl] using q
    | _ => cases hk
end

/-! ### the last operand is a name's own object, which is only looked at -/
def mIn2 (g : D → D → Option D) (ma : M O) (i : Nat) : M O := fun E => (ma E).bind fun a E1 => match E1[i]? with
  | some (some o) => match g a.toD o.toD with
    | some d => .ok (.fz d) E1
    | none => .bad
  | _ => .bad
def mRd1 (g : D → Option D) (i : Nat) : M O := fun E => match E[i]? with
  | some (some o) => match g o.toD with
    | some d => .ok (.fz d) E
    | none => .bad
  | _ => .bad
section
variable {X : Cx} {ad : Nat → Addr} {W : WX} {a : Expr} {ma : M O} {r : R2} {g : D → D → Option D}
theorem RepE.isAt {K : PySem.W.Frag} {F H : Hp} {E : En} {σ : L2.St} {f : List Addr} {i : Nat} {o : O} (ok : Ok K ad F H E σ f) (e : E[i]? = some (some o)) : ∃ v, σ[i]? = some (some v) ∧ Is K ad H o.toD v := by
  obtain ⟨v, f1, f2, h1, h2, _⟩ := ok.rep.at e
  exact ⟨v, h1, h2.is ok.sub⟩
theorem inB_core {ta : TE} {i : Nat} (qa : ∀ F H E σ f Q, Ok X.K ad F H E σ f → Aft X.K ad W [] [] F H f σ (ma E) Q → ta σ H Q) (p : BPrm X ad r g) :
    ∀ F H E σ f Q, Ok X.K ad F H E σ f → Aft X.K ad W [] [] F H f σ (mIn2 g ma i E) Q → tOp r ta (tVar i) σ H Q := by
  intro F H E σ f Q ok q
  refine qa F H E σ f _ ok ?_
  unfold mIn2 at q
  cases hm : ma E with
  | exc c E1 => rw [hm] at q; exact fun F' H' f' s o => q F' H' f' s o
  | bad => rw [hm] at q; exact q
  | ok x E1 =>
    rw [hm, bind_ok] at q
    intro F1 H1 v f1 s1 o1
    obtain ⟨f2, o2, s2⟩ := o1.tl'
    split at q
    · next o ho =>
      obtain ⟨u, hu, ru⟩ := RepE.isAt o2 ho
      refine ⟨u, hu, ?_⟩
      split at q
      · next d hd =>
        refine p.ok H1 x.toD o.toD v u d Q o1.isHead ru hd fun w hw => q F1 H1 w f2 (s1.trans s2) (o2.dat (hw F1))
      · exact q.elim
    · exact q.elim
theorem s_inB {x : Str} {px pos : Pos} {op : CmpOp} (i : Nat) (ho : OpR X (compareOp op) r) (p : BPrm X ad r g) (ha : SE X ad W a ma) (hN : X.N[i]? = some x) (hv : Vis X.env.scope x) (hd : (x == ("__debug__" : Str)) = false := by decide) (hcd : (x == ("__classdict__" : Str)) = false := by decide)
    (hm : behindInMarks op (.Name x px) = false := by rfl) : SE X ad W (.Compare a [op] [.Name x px] pos) (mIn2 g ma i) := by
  obtain ⟨ta, pa, qa⟩ := ha.ex
  exact ⟨_, pe_cmpR ho pa (pe_var hN hv hd hcd) hm, inB_core qa p⟩
theorem t_inB {x : Str} {px pos : Pos} {op : CmpOp} (i : Nat) (ho : OpR X (compareOp op) r) (p : BPrm X ad r g) (ha : SE X ad W a ma) (hN : X.N[i]? = some x) (hv : Vis X.env.scope x) (hd : (x == ("__debug__" : Str)) = false := by decide) (hcd : (x == ("__classdict__" : Str)) = false := by decide)
    (hm : behindInMarks op (.Name x px) = false := by rfl) : ST X ad W (.Compare a [op] [.Name x px] pos) (mAsB (mIn2 g ma i)) := by
  obtain ⟨ta, pa, qa⟩ := ha.ex
  exact ⟨_, pt_cmpR ho pa (pe_var hN hv hd hcd) hm, asB_core (inB_core qa p)⟩
def mTruB (i : Nat) : M Bool := fun E => match E[i]? with
  | some (some o) => match tru o.toD with
    | some b => .ok b E
    | none => .bad
  | _ => .bad
theorem t_truB {x : Str} {px : Pos} (i : Nat) (hN : X.N[i]? = some x) (hv : Vis X.env.scope x) (hd : (x == ("__debug__" : Str)) = false := by decide) (hcd : (x == ("__classdict__" : Str)) = false := by decide) : ST X ad W (.Name x px) (mTruB i) := by
  refine ⟨_, pt_truth (pe_var hN hv hd hcd) (by intro _; rfl), fun F H E σ f Q ok q => ?_⟩
  unfold mTruB at q
  split at q
  · next o ho =>
    obtain ⟨u, hu, ru⟩ := RepE.isAt ok ho
    split at q
    · next b hb => exact ⟨u, hu, b, tru_ok ru hb, q F H f (Step.refl _ _ _) ok⟩
    · exact q.elim
  · exact q.elim
end

/-! ### len -/
def dLen : D → Option D
  | .str s => if s.length ≤ sizeLine then some (.int s.length) else none
  | .tup ds => some (.int ds.length)
  | .lst ds => some (.int ds.length)
  | _ => none
def g1 (g : D → Option D) : List O → Option O
  | [a] => (g a.toD).map O.fz
  | _ => none
section
variable {X : Cx} {ad : Nat → Addr} {W : WX}
/-- one argument that is only read -/
theorem prm_1 {r : List V → Hp → VK → Prop} {g : D → Option D} (h : ∀ H a x d Q, Is X.K ad H a x → g a = some d → (∀ v, (∀ F, Is X.K ad F d v) → Q v H) → r [x] H Q) : Prm X ad r (g1 g) := by
  have p := prm_rd (X := X) (ad := ad) (r := r) (g := fun ds => match ds with
    | [a] => g a
    | _ => none) (fun H ds vs d Q rl e q => by
    match ds, rl, e with
    | [a], .cons (v := x) ra .nil, e => exact h H a x d Q ra e q)
  refine ⟨fun F H os vs E σ f Q ok hl q => p.ok F H os vs E σ f Q ok hl ?_⟩
  match os, q with
  | [a], q => simpa [g1, O.toDs] using q
  | [], q => exact q.elim
  | _ :: _ :: _, q => exact q.elim
def rLen1 (K : PySem.W.Frag) : List V → Hp → VK → Prop := fun xs H Q => ∃ x n, xs = [x] ∧ LenV K x H n ∧ Q (.int n) H
theorem len_ok {K : PySem.W.Frag} {H : Hp} {a d : D} {x : V} {Q : VK} (r : Is K ad H a x) (e : dLen a = some d) (q : ∀ v, (∀ F, Is K ad F d v) → Q v H) : rLen1 K [x] H Q := by
  cases r with
  | str s =>
    have e : (if s.length ≤ sizeLine then some (D.int s.length) else none) = some d := e
    by_cases h : s.length ≤ sizeLine
    · rw [if_pos h] at e
      cases e
      exact ⟨_, s.length, rfl, ⟨by simpa [PySem.Str.length] using h, by simp [PySem.Str.length]⟩, q _ fun F => .int _⟩
    · rw [if_neg h] at e; cases e
  | tup hs r =>
    cases e
    exact ⟨_, _, rfl, .inr ⟨_, hs, rfl⟩, by rw [← r.length]; exact q _ fun F => .int _⟩
  | lst hs r =>
    cases e
    exact ⟨_, _, rfl, .inl ⟨_, .inl (.inl hs), rfl⟩, by rw [← r.length]; exact q _ fun F => .int _⟩
  | _ => cases e
theorem k_len : Prm X ad (rLen1 X.K) (g1 dLen) := prm_1 fun H a x d Q r e q => len_ok r e q
theorem s_lenB {x y : Str} {p px pos : Pos} (i : Nat) (hm : X.mg y = none) (hy : y = "len" := by rfl) (hN : X.N[i]? = some x) (hv : Vis X.env.scope x) (hg : Gl X y := by rfl) (hd : (x == ("__debug__" : Str)) = false := by decide) (hcd : (x == ("__classdict__" : Str)) = false := by decide)
    (he : starEach [.Name x px] X.env = (false, eval (.Name x px) X.env) :: starEach [] X.env := by rfl) (hpl : (backTo pos (starEach [] X.env)).any (·.1) = false := by rfl) :
    SE X ad W (.Call (.Name y p) [.Name x px] [] pos) (mRd1 dLen i) := by
  subst hy
  refine ⟨_, pe_callB call_len hg hm PySem.boot_len (pa_cons (pe_var hN hv hd hcd) pa_nil he) (by decide) (by decide) he hpl, fun F H E σ f Q ok q => ?_⟩
  unfold mRd1 at q
  split at q
  · next o ho =>
    obtain ⟨u, hu, ru⟩ := RepE.isAt ok ho
    refine ⟨u, hu, ?_⟩
    split at q
    · next d hd => exact len_ok ru hd fun v hv => q F H v f (Step.refl _ _ _) (ok.dat (hv F))
    · exact q.elim
  · exact q.elim
end
end Mn

set_option Elab.async false
set_option linter.all false
set_option maxRecDepth 100000
set_option maxHeartbeats 4000000
namespace Mn
open PySem PySem.Spec PyProof.Rows L2

/-! ### an item -/
def itemD : D → D → Option D
  | .tup ds, .int i => atI ds i
  | .lst ds, .int i => atI ds i
  | .scr ns, .int i => (atI ns i).map D.int
  | .str s, .int i => if s.length ≤ sizeLine then (atI s i).map fun c => .str [c] else none
  | .dct kvs, k => (kOf k).bind (lookK kvs)
  | _, _ => none
def rItem (K : PySem.W.Frag) : R2 := fun x y H Q => rIx K x y H Q ∨ ∃ a v, x = .ref a ∧ DGet H a y (some v) ∧ Q v H
section
variable {X : Cx} {ad : Nat → Addr}
theorem ix_dct (hu : X.A.units + 65 < cLine) : IxR X (fun x y H Q => ∃ a v, x = .ref a ∧ DGet H a y (some v) ∧ Q v H) := by
  intro value slice pins s σ H x y v u Q I rx ry h hs
  obtain ⟨a, w, rfl, g, q⟩ := h
  obtain rfl : v = Value.ref a := rx
  exact tail_any (dict_typeIs I g) PySem.F.slot_dict_getitem.lookup (d_getItem (by omega) I g ry fun w' s3 I3 rw' => ⟨w, H, I3, rw', q⟩) hs
theorem ix_item (hu : X.A.units + 65 < cLine) : IxR X (rItem X.K) := ix_seq.or (ix_dct hu)
theorem atI_is {K : PySem.W.Frag} {H : Hp} {ds : List D} {vs : List V} {i : Int} {d : D} (r : IsL K ad H ds vs) (e : atI ds i = some d) : ∃ v, atI vs i = some v ∧ Is K ad H d v := by
  unfold atI at e ⊢
  rw [← r.length]
  cases h : ixN ds.length i with
  | none => rw [h] at e; cases e
  | some j =>
    rw [h] at e
    obtain ⟨v, h1, h2⟩ := r.get (i := j) (d := d) e
    exact ⟨v, h1, h2⟩
theorem item_ok {K : PySem.W.Frag} {F H0 : Hp} {a k d : D} {x y : V} (ra : Is K ad F a x) (rk : Is K ad H0 k y) (e : itemD a k = some d) : ∃ v, Is K ad F d v ∧ ∀ H, Same F H → ∀ Q : VK, Q v H → rItem K x y H Q := by
  cases ra with
  | @tup p ds vs hs r =>
    cases rk with
    | int i =>
      obtain ⟨v, h1, h2⟩ := atI_is r e
      exact ⟨v, h2, fun H sb Q q => .inl (.inr (.inl ⟨p, vs, i, v, rfl, rfl, Same.sqT sb hs, h1, q⟩))⟩
    | _ => cases e
  | @lst p ds vs hs r =>
    cases rk with
    | int i =>
      obtain ⟨v, h1, h2⟩ := atI_is r e
      exact ⟨v, h2, fun H sb Q q => .inl (.inl ⟨p, vs, i, v, rfl, rfl, .inl (.inl (sb _ _ hs)), h1, q⟩)⟩
    | _ => cases e
  | @scr p ns hs =>
    cases rk with
    | int i =>
      have e : (atI ns i).map D.int = some d := e
      cases h : atI ns i with
      | none => rw [h] at e; cases e
      | some n =>
        rw [h] at e
        cases e
        refine ⟨.int n, .int n, fun H sb Q q => .inl (.inl ⟨p, _, i, _, rfl, rfl, Same.seq sb hs, ?_, q⟩)⟩
        unfold atI at h ⊢
        rw [List.length_map]
        cases h2 : ixN ns.length i with
        | none => rw [h2] at h; cases h
        | some j =>
          rw [h2] at h
          show (ns.map V.int)[j]? = _
          rw [List.getElem?_map, show ns[j]? = some n from h]
          rfl
    | _ => cases e
  | str s =>
    cases rk with
    | int i =>
      have e : (if s.length ≤ sizeLine then (atI s i).map fun c => D.str [c] else none) = some d := e
      by_cases hl : s.length ≤ sizeLine
      · rw [if_pos hl] at e
        cases h : atI s i with
        | none => rw [h] at e; cases e
        | some c =>
          rw [h] at e
          cases e
          exact ⟨.str ⟨#[c]⟩, .str [c], fun H sb Q q => .inl (.inr (.inr ⟨_, i, c, rfl, rfl, by simpa [PySem.Str.length] using hl, by simpa using h, q⟩))⟩
      · rw [if_neg hl] at e; cases e
    | _ => cases e
  | @dct p kvs ws hs r =>
    have e : (kOf k).bind (lookK kvs) = some d := by cases rk <;> exact e
    cases hk : kOf k with
    | none => rw [hk] at e; cases e
    | some kk =>
      rw [hk] at e
      obtain ⟨v, h1, h2⟩ := (lookK_ok (k := kk) r).2 d e
      refine ⟨v, h2, fun H sb Q q => .inr ⟨p, v, rfl, ?_, q⟩⟩
      rw [tk_kV rk hk, ← h1]
      exact DGet.k (sb _ _ hs)
  | _ => cases rk <;> cases e
def pItem : List O → Option O
  | [a, b] => (itemD a.toD b.toD).map O.fz
  | _ => none
theorem k_item : Prm X ad (r2 (rItem X.K)) pItem := by
  refine ⟨fun F H os vs E σ f Q ok hl q => ?_⟩
  rcases hg : pItem os with _ | o
  · rw [hg] at q; exact q.elim
  rw [hg] at q
  unfold pItem at hg
  split at hg
  · next a b =>
    match vs, hl, ok with
    | [v, u], hl, ok =>
      obtain ⟨F1, f1, s1, o1, r1⟩ := Ok.freezeL (os := [a, b]) (vs := [v, u]) rfl ok
      simp only [O.toDs] at r1
      cases hd : itemD a.toD b.toD with
      | none => rw [hd] at hg; cases hg
      | some d =>
        rw [hd] at hg
        cases hg
        cases r1 with
        | cons i1 r => cases r with
          | cons i2 r =>
            obtain ⟨w, h1, h2⟩ := item_ok i1 i2 hd
            exact ⟨v, u, rfl, h2 H o1.sub Q (q F1 H w f1 s1 (o1.dat h1))⟩
  · cases hg
end

/-! ### an item of the i-th name's object -/
def lookO : List (KK × O) → KK → Option O
  | [], _ => none
  | (j, d) :: r, k => if j = k then some d else lookO r k
def atO : O → D → Option O
  | .fz d, k => (itemD d k).map O.fz
  | .lst xs, .int i => atI xs i
  | .dct kvs, k => (kOf k).bind (lookO kvs)
  | _, _ => none
theorem look_toD : ∀ (kvs : List (KK × O)) (k : KK), lookK (O.toKs kvs) k = (lookO kvs k).map O.toD
  | [], _ => by unfold O.toKs; rfl
  | (j, x) :: r, k => by
    unfold O.toKs lookK lookO
    by_cases h : j = k
    · rw [if_pos h, if_pos h]; rfl
    · rw [if_neg h, if_neg h]; exact look_toD r k
theorem toDs_eq : ∀ os : List O, O.toDs os = os.map O.toD
  | [] => by unfold O.toDs; rfl
  | x :: xs => by unfold O.toDs; rw [toDs_eq xs]; rfl
theorem atI_map {α β : Type} (g : α → β) (xs : List α) (i : Int) : atI (xs.map g) i = (atI xs i).map g := by
  unfold atI
  rw [List.length_map]
  cases ixN xs.length i with
  | none => rfl
  | some j => show (xs.map g)[j]? = _; rw [List.getElem?_map]; rfl
theorem at_toD {o x : O} {k : D} (h : atO o k = some x) : itemD o.toD k = some x.toD := by
  cases o with
  | fz d =>
    have h : (itemD d k).map O.fz = some x := by cases k <;> exact h
    cases hd : itemD d k with
    | none => rw [hd] at h; cases h
    | some y => rw [hd] at h; cases h; unfold O.toD; exact hd
  | lst xs =>
    cases k with
    | int i =>
      have h : atI xs i = some x := h
      have e : (O.lst xs).toD = .lst (O.toDs xs) := by rw [O.toD]
      rw [e]
      show atI (O.toDs xs) i = _
      rw [toDs_eq, atI_map, h]
      rfl
    | _ => cases h
  | dct kvs =>
    have h : (kOf k).bind (lookO kvs) = some x := by cases k <;> exact h
    cases hk : kOf k with
    | none => rw [hk] at h; cases h
    | some kk =>
      rw [hk] at h
      have e : itemD (O.dct kvs).toD k = (kOf k).bind (lookK (O.toKs kvs)) := by
        conv => lhs; unfold O.toD
        cases k <;> rfl
      rw [e, hk]
      show lookK _ kk = _
      rw [look_toD, show lookO kvs kk = some x from h]
      rfl
  | ptp ds => cases k <;> cases h
def mIdx (i : Nat) (mk : M O) : M O := fun E => match E[i]? with
  | some (some _) => (mk E).bind fun k E1 => match E1[i]? with
    | some (some o) => match atO o k.toD with
      | some (.fz d) => .ok (.fz d) E1
      | some o' => .ok (.fz o'.toD) (E1.set i (some (.fz o.toD)))
      | none => .bad
    | _ => .bad
  | _ => .bad
section
variable {X : Cx} {ad : Nat → Addr} {W : WX} {K : PySem.W.Frag} {F H : Hp}
theorem RepL.atR : ∀ {os : List O} {vs : List V} {fp : List Addr} {j : Nat} {o : O}, RepL K ad F H os vs fp → os[j]? = some o → ∃ v fx, vs[j]? = some v ∧ Rep K ad F H o v fx ∧ ∃ fr, fp.Perm (fx ++ fr) ∧ RepL K ad F H (os.eraseIdx j) (vs.eraseIdx j) fr ∧
    ∀ {F' H' : Hp} {o' : O} {fx' fr' : List Addr}, Rep K ad F' H' o' v fx' → RepL K ad F' H' (os.eraseIdx j) (vs.eraseIdx j) fr' → ∃ fp', RepL K ad F' H' (os.set j o') vs fp' ∧ fp'.Perm (fx' ++ fr')
  | _, _, _, _, _, .nil, e => by simp at e
  | _, _, _, 0, _, .cons (f := f1) (g := g1) h r, e => by
    simp at e
    subst e
    exact ⟨_, f1, rfl, h, g1, .refl _, r, fun {F' H' o' fx' fr'} a b => ⟨fx' ++ fr', .cons a b, .refl _⟩⟩
  | _, _, _, j + 1, o, .cons (f := f1) (g := g1) h r, e => by
    obtain ⟨v, fx, h1, h2, fr, pm, h3, h4⟩ := RepL.atR (j := j) (o := o) r (by simpa using e)
    refine ⟨v, fx, by simpa using h1, h2, f1 ++ fr, ?_, .cons h h3, fun {F' H' o' fx' fr'} a b => ?_⟩
    · refine (List.Perm.append_left f1 pm).trans ?_
      rw [← List.append_assoc, ← List.append_assoc]
      exact List.Perm.append_right _ List.perm_append_comm
    · cases b with
      | @cons _ _ _ _ f2 g2 x b =>
        obtain ⟨fp', q, p⟩ := h4 a b
        refine ⟨_, .cons x q, (List.Perm.append_left _ p).trans ?_⟩
        rw [← List.append_assoc, ← List.append_assoc]
        exact List.Perm.append_right _ List.perm_append_comm
theorem RepK.toL : ∀ {os : List (KK × O)} {ws : List (Key × V)} {fp : List Addr}, RepK K ad F H os ws fp → RepL K ad F H (os.map (·.2)) (ws.map (·.2)) fp ∧ ws.map (·.1) = os.map fun p => tk p.1
  | _, _, _, .nil => ⟨.nil, rfl⟩
  | _, _, _, .cons h r => by
    obtain ⟨a, b⟩ := RepK.toL r
    exact ⟨.cons h a, by rw [List.map_cons, List.map_cons, b]⟩
theorem RepK.ofL : ∀ {os : List (KK × O)} {ws : List (Key × V)} {fp : List Addr}, RepL K ad F H (os.map (·.2)) (ws.map (·.2)) fp → ws.map (·.1) = os.map (fun p => tk p.1) → RepK K ad F H os ws fp
  | [], [], _, r, _ => by cases r; exact .nil
  | [], _ :: _, _, r, _ => by cases r
  | _ :: _, [], _, r, _ => by cases r
  | (k, o) :: os, (kk, v) :: ws, _, r, e => by
    simp only [List.map_cons, List.cons.injEq] at e
    obtain ⟨rfl, e⟩ := e
    cases r with
    | cons h r => exact .cons h (RepK.ofL r e)
theorem look_idx : ∀ {kvs : List (KK × O)} {k : KK} {o : O}, lookO kvs k = some o → ∃ j : Nat, (kvs.map (·.2))[j]? = some o ∧ (kvs.map (·.1))[j]? = some k ∧ ∀ i : Nat, i < j → (kvs.map (·.1))[i]? ≠ some k
  | [], _, _, h => by cases h
  | (j, x) :: r, k, o, h => by
    unfold lookO at h
    by_cases e : j = k
    · rw [if_pos e] at h
      cases h
      exact ⟨0, rfl, by simp [e], fun i hi => absurd hi (by omega)⟩
    · rw [if_neg e] at h
      obtain ⟨i, h1, h2, h3⟩ := look_idx h
      refine ⟨i + 1, by simpa using h1, by simpa using h2, fun i' hi => ?_⟩
      cases i' with
      | zero => simpa using e
      | succ i' => simpa using h3 i' (by omega)
theorem val_idx : ∀ {ws : List (Key × V)} {kk : Key} {v : V} {j : Nat}, (ws.map (·.2))[j]? = some v → (ws.map (·.1))[j]? = some kk → (∀ i, i < j → (ws.map (·.1))[i]? ≠ some kk) → valV ws kk = some v
  | [], _, _, _, h, _, _ => by simp at h
  | (k0, w) :: r, kk, v, 0, h1, h2, h3 => by
    simp at h1 h2
    rw [valV_pos (by exact h2)]
    exact congrArg some h1
  | (k0, w) :: r, kk, v, j + 1, h1, h2, h3 => by
    have n : ¬ k0 = kk := by simpa using h3 0 (by omega)
    rw [valV_neg (by exact n)]
    exact val_idx (j := j) (by simpa using h1) (by simpa using h2) fun i hi => by simpa using h3 (i + 1) (by omega)
/-- the object at an index in an own list or dict: it, and all beside it -/
def putAtO (o : O) (k : D) (x : O) : O := match o with
  | .lst xs => match k with
    | .int i => match ixN xs.length i with
      | some j => .lst (xs.set j x)
      | none => o
    | _ => o
  | .dct kvs => match kOf k with
    | some kk => .dct (setK kvs kk x)
    | none => o
  | o => o
where setK : List (KK × O) → KK → O → List (KK × O)
  | [], _, _ => []
  | (j, y) :: r, k, x => if j = k then (j, x) :: r else (j, y) :: setK r k x
theorem setK_vals : ∀ {kvs : List (KK × O)} {k : KK} {x : O} {j : Nat}, (kvs.map (·.1))[j]? = some k → (∀ i, i < j → (kvs.map (·.1))[i]? ≠ some k) → (putAtO.setK kvs k x).map (·.2) = (kvs.map (·.2)).set j x ∧ (putAtO.setK kvs k x).map (·.1) = kvs.map (·.1)
  | [], _, _, _, h, _ => by simp at h
  | (k0, y) :: r, k, x, 0, h, _ => by
    simp at h
    unfold putAtO.setK
    rw [if_pos h]
    exact ⟨rfl, rfl⟩
  | (k0, y) :: r, k, x, j + 1, h, h3 => by
    have n : ¬ k0 = k := by simpa using h3 0 (by omega)
    unfold putAtO.setK
    rw [if_neg n]
    obtain ⟨a, b⟩ := setK_vals (kvs := r) (k := k) (x := x) (j := j) (by simpa using h) fun i hi => by simpa using h3 (i + 1) (by omega)
    exact ⟨by simp [a], by simp [b]⟩
theorem hole {o x : O} {v y : V} {k : D} {fp : List Addr} {H0 : Hp} (r : Rep K ad F H o v fp) (rk : Is K ad H0 k y) (e : atO o k = some x) (hf : ∀ d, o ≠ .fz d) :
    ∃ a, v = .ref a ∧ (H a).isSome ∧ ∃ (L : List O) (U : List V) (w : V) (fx fr : List Addr), fp.Perm (a :: (fx ++ fr)) ∧ Rep K ad F H x w fx ∧ RepL K ad F H L U fr ∧ (∀ H', H' a = H a → ∀ Q : VK, Q w H' → rItem K v y H' Q) ∧
    ∀ {F' H' : Hp} {x' : O} {fx' fr' : List Addr}, H' a = H a → Rep K ad F' H' x' w fx' → RepL K ad F' H' L U fr' → ∃ fp', Rep K ad F' H' (putAtO o k x') v fp' ∧ fp'.Perm (a :: (fx' ++ fr')) := by
  cases r with
  | fz q => exact absurd rfl (hf _)
  | @lst a os vs fo h rl =>
    cases rk with
    | int i =>
      have e : atI os i = some x := e
      unfold atI at e
      cases hj : ixN os.length i with
      | none => rw [hj] at e; cases e
      | some j =>
        rw [hj] at e
        obtain ⟨w, fx, h1, h2, fr, pm, h3, h4⟩ := rl.atR (j := j) (o := x) e
        refine ⟨a, rfl, by rw [h]; rfl, os.eraseIdx j, vs.eraseIdx j, w, fx, fr, pm.cons a, h2, h3, fun H' eH Q q => .inl (.inl ⟨a, vs, i, w, rfl, rfl, .inl (.inl (eH.trans h)), ?_, q⟩), fun {F' H' x' fx' fr'} eH p1 p2 => ?_⟩
        · unfold atI; rw [← rl.length, hj]; exact h1
        · obtain ⟨fp', q, p⟩ := h4 p1 p2
          refine ⟨a :: fp', ?_, p.cons a⟩
          have : putAtO (.lst os) (.int i) x' = .lst (os.set j x') := by unfold putAtO; simp only [hj]
          rw [this]
          exact .lst (eH.trans h) q
    | _ => cases e
  | @dct a kvs ws fo h nd rk' =>
    have e : (kOf k).bind (lookO kvs) = some x := by cases k <;> exact e
    cases hk : kOf k with
    | none => rw [hk] at e; cases e
    | some kk =>
      rw [hk] at e
      have e : lookO kvs kk = some x := e
      obtain ⟨j, e1, e2, e3⟩ := look_idx e
      obtain ⟨rl, keys⟩ := rk'.toL
      obtain ⟨w, fx, h1, h2, fr, pm, h3, h4⟩ := rl.atR (j := j) (o := x) e1
      have kj : ∀ i, (ws.map (·.1))[i]? = ((kvs.map (·.1))[i]?).map tk := fun i => by
        rw [keys]
        rw [show kvs.map (fun p => tk p.1) = (kvs.map (·.1)).map tk by simp [List.map_map]]
        exact List.getElem?_map
      refine ⟨a, rfl, by rw [h]; rfl, _, _, w, fx, fr, pm.cons a, h2, h3, fun H' eH Q q => .inr ⟨a, w, rfl, ?_, q⟩, fun {F' H' x' fx' fr'} eH p1 p2 => ?_⟩
      · rw [tk_kV rk hk]
        have hv : valV ws (tk kk) = some w := val_idx h1 (by rw [kj, e2]; rfl) fun i hi z => by
          rw [kj] at z
          obtain ⟨k2, z1, z2⟩ := Option.map_eq_some_iff.mp z
          exact e3 i hi (z1.trans (congrArg some (tk_inj z2)))
        rw [← hv]
        exact DGet.k (eH.trans h)
      · obtain ⟨fp', q, p⟩ := h4 p1 p2
        obtain ⟨s1, s2⟩ := setK_vals (x := x') e2 e3
        refine ⟨a :: fp', ?_, p.cons a⟩
        have : putAtO (.dct kvs) k x' = .dct (putAtO.setK kvs kk x') := by unfold putAtO; simp only [hk]
        rw [this]
        refine .dct (eH.trans h) (by rw [s2]; exact nd) (RepK.ofL (by rw [s1]; exact q) ?_)
        rw [keys]
        have : kvs.map (fun p => tk p.1) = (kvs.map (·.1)).map tk := by simp [List.map_map]
        rw [this, ← s2]
        simp [List.map_map]
  | ptp _ _ _ => cases k <;> cases e
theorem s_idx {x : Str} {px pos : Pos} {b : Expr} {mk : M O} (i : Nat) (hu : X.A.units + 65 < cLine) (hb : SE X ad W b mk) (hN : X.N[i]? = some x) (hv : Vis X.env.scope x) (hd : (x == ("__debug__" : Str)) = false := by decide) (hcd : (x == ("__classdict__" : Str)) = false := by decide)
    (hs : PlainIx b := by exact fun _ _ => rfl) : SE X ad W (.Subscript (.Name x px) b pos) (mIdx i mk) := by
  obtain ⟨tb, pb, qb⟩ := hb.ex
  refine ⟨_, pe_ix (ix_item hu) (pe_var hN hv hd hcd) pb hs, fun F H E σ f Q ok q => ?_⟩
  unfold mIdx at q
  split at q
  · next o0 h0 =>
    obtain ⟨v, f1, f2, hvv, _⟩ := ok.rep.at h0
    refine ⟨v, hvv, ?_⟩
    refine qb F H E σ f _ ok ?_
    cases hm : mk E with
    | bad => rw [hm] at q; exact q
    | exc c E1 => rw [hm] at q; exact fun F' H' f' s o => q F' H' f' s o
    | ok k E1 =>
      rw [hm, bind_ok] at q
      intro F1 H1 y f1 s1 o1
      have iy := o1.isHead
      obtain ⟨g1, ob, sb⟩ := o1.tl'
      split at q
      · next o ho =>
        obtain ⟨v', fa, fb, hv', rv, rE, pm, back⟩ := ob.rep.at ho
        have ev : v' = v := by rw [hvv] at hv'; simpa using hv'.symm
        subst ev
        -- frozen: the whole
        have frozen : ∀ x' : O, atO o k.toD = some x' → Aft X.K ad W [] [] F H f σ (.ok (.fz x'.toD) (E1.set i (some (.fz o.toD)))) Q → rItem X.K v' y H1 Q := fun x' hx q => by
          obtain ⟨v2, g, e1, o2, hm2⟩ := ob.take ho
          have e2 : v2 = v' := by rw [hvv] at e1; simpa using e1.symm
          subst e2
          obtain ⟨F2, f2', st, o3, hm3⟩ := o2.freeze
          have e3 : (E1.set i none)[i]? = some none := by
            have := (List.getElem?_eq_some_iff.mp ho).1
            simp [List.getElem?_set, this]
          have hI := o3.head
          obtain ⟨g2, o4, hm4⟩ := o3.putAt e3 hvv
          rw [List.set_set] at o4
          obtain ⟨w, iw, kw⟩ := item_ok hI iy (at_toD hx)
          refine kw H1 o4.sub Q (q F2 H1 w g2 ?_ (o4.dat iw))
          exact s1.trans (sb.trans ((Step.perm (fun x hx => (hm2 x).mp hx)).trans (st.less fun x hx => (hm4 x).mp hx)))
        split at q
        · next d hd =>
          cases o with
          | fz base =>
            cases rv with
            | fz rv =>
              have hd' : (itemD base k.toD).map O.fz = some (.fz d) := by
                revert hd; cases k.toD <;> exact id
              cases hi : itemD base k.toD with
              | none => rw [hi] at hd'; cases hd'
              | some d' =>
                rw [hi] at hd'
                cases hd'
                obtain ⟨w, iw, kw⟩ := item_ok rv iy hi
                exact kw H1 ob.sub Q (q F1 H1 w g1 (s1.trans sb) (ob.dat iw))
          | lst xs =>
            obtain ⟨a, rfl, ha, L, U, w, fx, fr, pm2, rx, rL, rd, _⟩ := hole rv iy hd (fun d h => by cases h)
            cases rx with
            | fz iw => exact rd H1 rfl Q (q F1 H1 w g1 (s1.trans sb) (ob.dat iw))
          | dct kvs =>
            obtain ⟨a, rfl, ha, L, U, w, fx, fr, pm2, rx, rL, rd, _⟩ := hole rv iy hd (fun d h => by cases h)
            cases rx with
            | fz iw => exact rd H1 rfl Q (q F1 H1 w g1 (s1.trans sb) (ob.dat iw))
          | ptp ds =>
            obtain ⟨a, rfl, ha, L, U, w, fx, fr, pm2, rx, rL, rd, _⟩ := hole rv iy hd (fun d h => by cases h)
            cases rx with
            | fz iw => exact rd H1 rfl Q (q F1 H1 w g1 (s1.trans sb) (ob.dat iw))
        · next o' ho' hx => exact frozen o' hx q
        · exact q.elim
      · exact q.elim
  · exact q.elim
end
end Mn

set_option Elab.async false
set_option linter.all false
set_option maxRecDepth 100000
set_option maxHeartbeats 4000000
namespace Mn
open PySem PySem.Spec PyProof.Rows L2

/-! ### a method of the list that stands at an index of the i-th name's own object -/
def mMethAt (u : O → List O → Option (O × O)) (i : Nat) (mk : M O) (vals : M (List O)) : M O := fun E => match E[i]? with
  | some (some _) => (mk E).bind fun k E1 => match E1[i]? with
    | some (some o) => match o with
      | .fz _ => .bad
      | _ => match atO o k.toD with
        | some (.lst ys) => (vals (E1.set i none)).bind fun vs E2 => match E2[i]? with
          | some none => match u (.lst ys) vs with
            | some (res, o') => .ok res (E2.set i (some (putAtO o k.toD o')))
            | none => .bad
          | _ => .bad
        | _ => .bad
    | _ => .bad
  | _ => .bad
section
variable {X : Cx} {ad : Nat → Addr} {W : WX} {e b : Expr} {es : List Expr} {ms : M (List O)} {mk : M O} {apos cpos pos : Pos}
theorem methAt_core {tb : TE} {ta : TA} {r : V → List V → Hp → VK → Prop} {u : O → List O → Option (O × O)} {i : Nat} (qb : ∀ F H E σ f Q, Ok X.K ad F H E σ f → Aft X.K ad W [] [] F H f σ (mk E) Q → tb σ H Q)
    (qa : ∀ F H E σ f Q, Ok X.K ad F H E σ f → AftL X.K ad W [] [] F H f σ (ms E) Q → ta σ H Q) (p : MPrm X ad r u) :
    ∀ F H E σ f Q, Ok X.K ad F H E σ f → Aft X.K ad W [] [] F H f σ (mMethAt u i mk ms E) Q → tBM X.K "list" r (tOp (rItem X.K) (tVar i) tb) ta σ H Q := by
  intro F H E σ f Q ok q
  unfold mMethAt at q
  split at q
  case h_2 => exact q.elim
  next o0 h0 =>
  obtain ⟨v, _, _, hvv, _⟩ := ok.rep.at h0
  refine ⟨v, hvv, ?_⟩
  refine qb F H E σ f _ ok ?_
  cases hm : mk E with
  | bad => rw [hm] at q; exact q
  | exc c E1 => rw [hm] at q; exact fun F' H' f' s o => q F' H' f' s o
  | ok k E1 =>
    rw [hm, bind_ok] at q
    intro F1 H1 y f1 s1 o1
    have iy := o1.isHead
    obtain ⟨g1, ob, sb⟩ := o1.tl'
    split at q
    case h_2 => exact q.elim
    next o ho =>
    have hof : ∀ d, o ≠ .fz d := fun d h => by subst h; exact q.elim
    have q : Aft X.K ad W [] [] F H f σ (match atO o k.toD with
        | some (.lst ys) => (ms (E1.set i none)).bind fun vs E2 => match E2[i]? with
          | some none => match u (.lst ys) vs with
            | some (res, o') => .ok res (E2.set i (some (putAtO o k.toD o')))
            | none => .bad
          | _ => .bad
        | _ => .bad) Q := by cases o with
      | fz d => exact absurd rfl (hof d)
      | lst _ => exact q
      | dct _ => exact q
      | ptp _ => exact q
    split at q
    case h_2 => exact q.elim
    next ys hys =>
    obtain ⟨v2, g, e1, o2, hm2⟩ := ob.take ho
    have e2 : v2 = v := by rw [hvv] at e1; simpa using e1.symm
    subst e2
    have sg : Step F1 H1 g1 F1 H1 g := Step.perm fun x hx => (hm2 x).mp hx
    obtain ⟨fo, g2, rfl, rE1, o3, kf⟩ := Ok.frame (E1 := [some o]) (S1 := [some v2]) (E := E1.set i none) (S := σ) rfl o2
    have ro : Rep X.K ad F1 H1 o v2 fo := by
      cases rE1 with
      | put q r => cases r; simpa using q
    obtain ⟨a, rfl, ha, L, U, w, fx, fr, pm, rx, rL, rd, back⟩ := hole ro iy hys hof
    obtain ⟨ob', hb'⟩ := Option.isSome_iff_exists.mp ha
    cases rx with
    | @lst bb _ vs0 fy hbb ry =>
    refine rd H1 rfl _ ⟨.inl ⟨rfl, _, .inl (.inl hbb)⟩, ?_⟩
    refine qa F1 H1 (E1.set i none) σ g2 _ o3 ?_
    cases hms : ms (E1.set i none) with
    | bad => rw [hms] at q; exact q
    | exc c E2 =>
      rw [hms] at q
      intro F' H' f' s oo
      exact q F' H' f' (s1.trans (sb.trans (sg.trans (s.more fun x hx => List.mem_append_right _ hx)))) oo
    | ok os E2 =>
      rw [hms, bind_ok] at q
      intro F2 H2 vs f2 s2 l2 o4
      have o4 : Ok X.K ad F2 H2 (os.map some ++ E2) (vs.map some ++ σ) f2 := o4
      split at q
      case h_2 => exact q.elim
      next hnone =>
      split at q
      case h_2 => exact q.elim
      next res o' hu =>
      obtain ⟨o5, s5⟩ := kf s2 o4
      have nd5 := List.nodup_append.mp o5.nd
      have ndf := pm.nodup_iff.mp nd5.1
      have nda := List.nodup_cons.mp ndf
      have infx : ∀ z ∈ (bb :: fy) ++ fr, z ∈ fo := fun z hz => pm.mem_iff.mpr (List.mem_cons_of_mem _ hz)
      have ain : a ∈ fo := pm.mem_iff.mpr List.mem_cons_self
      have g2o : ∀ z ∈ fo, z ∉ g2 := fun z h1 h2 => (List.nodup_append.mp o2.nd).2.2 z h1 z h2 rfl
      have keep : ∀ z ∈ fo, ∀ uu, H1 z = some uu → H2 z = some uu := fun z hz uu ez => s2.h z uu ez (g2o z hz)
      have ea : H2 a = H1 a := by rw [keep a ain ob' hb', hb']
      have rx2 : Rep X.K ad F2 H2 (.lst ys) (.ref bb) (bb :: fy) := (Rep.lst hbb ry).mono s2.f fun z hz uu ez => keep z (infx z (List.mem_append_left _ hz)) uu ez
      have rL2 : RepL X.K ad F2 H2 L U fr := rL.mono s2.f fun z hz uu ez => keep z (infx z (List.mem_append_right _ hz)) uu ez
      have lLU := rL2.length
      have hlen4 : (os.map some ++ E2).length = (vs.map some ++ σ).length := o4.rep.length
      have hE2 : E2.length = σ.length := by simp [l2] at hlen4; omega
      have rep6 : RepE X.K ad F2 H2 (some (.lst ys) :: (os.map some ++ (E2 ++ L.map some))) (some (.ref bb) :: (vs.map some ++ (σ ++ U.map some))) ((bb :: fy) ++ (f2 ++ fr)) := by
        rw [← List.append_assoc, ← List.append_assoc]
        exact .put rx2 (RepE.append o4.rep (RepE.ofL rL2))
      have pm6 : ((bb :: fy) ++ (f2 ++ fr)).Perm (((bb :: fy) ++ fr) ++ f2) := by
        rw [List.append_assoc]
        exact List.Perm.append_left _ List.perm_append_comm
      have nd6 : (((bb :: fy) ++ fr) ++ f2).Nodup := List.nodup_append.mpr ⟨nda.2, nd5.2.1, fun x hx z hz e => nd5.2.2 x (infx x hx) z hz e⟩
      have in6 : ∀ z ∈ (bb :: fy) ++ (f2 ++ fr), z ∈ fo ++ f2 := fun z hz => by
        rcases List.mem_append.mp (pm6.mem_iff.mp hz) with q | q
        · exact List.mem_append_left _ (infx z q)
        · exact List.mem_append_right _ q
      have a6 : a ∉ (bb :: fy) ++ (f2 ++ fr) := fun hz => by
        rcases List.mem_append.mp (pm6.mem_iff.mp hz) with q | q
        · exact nda.1 q
        · exact nd5.2.2 a ain a q rfl
      have o6 : Ok X.K ad F2 H2 (some (.lst ys) :: (os.map some ++ (E2 ++ L.map some))) (some (.ref bb) :: (vs.map some ++ (σ ++ U.map some))) ((bb :: fy) ++ (f2 ++ fr)) :=
        ⟨o4.sub, rep6, pm6.nodup_iff.mpr nd6, fun z hz => o5.nf z (in6 z hz)⟩
      refine p.ok F2 H2 (.lst ys) os (.ref bb) vs (E2 ++ L.map some) (σ ++ U.map some) _ res o' Q o6 l2 hu ?_
      intro F' H' w' f' st o7
      have ha2 : H2 a = some ob' := by rw [ea]; exact hb'
      have ha' : H' a = some ob' := st.h a ob' ha2 a6
      have Fa2 : F2 a = none := o5.nf a (List.mem_append_left _ ain)
      have Fa' : F' a = none := st.g a ob' ha2 a6 Fa2
      have af' : a ∉ f' := fun hz => by
        rcases st.n a hz with q | q
        · exact a6 q
        · rw [ha2] at q; cases q
      have r7 := o7.rep
      have nd7 := o7.nd
      have nf7 := o7.nf
      cases r7 with
      | @put _ _ _ _ fres _ rres r7 =>
      cases r7 with
      | @put _ _ _ _ fo' _ ro' r7 =>
      obtain ⟨fe, fl, rfl, rEe, rEl⟩ := RepE.split hE2 r7
      obtain ⟨fp', rp', pmp⟩ := back (F' := F') (H' := H') (ha'.trans hb'.symm) ro' (RepE.toL rEl)
      have pm8 : (fres ++ (fp' ++ fe)).Perm (a :: (fres ++ (fo' ++ (fe ++ fl)))) := by
        have h1 : (fp' ++ fe).Perm (a :: (fo' ++ (fe ++ fl))) := by
          refine (List.Perm.append_right fe pmp).trans ?_
          refine List.Perm.cons a ?_
          show ((fo' ++ fl) ++ fe).Perm _
          rw [List.append_assoc]
          exact List.Perm.append_left _ List.perm_append_comm
        refine (List.Perm.append_left fres h1).trans ?_
        exact List.perm_middle
      have nd8 : (fres ++ (fp' ++ fe)).Nodup := pm8.nodup_iff.mpr (List.nodup_cons.mpr ⟨af', nd7⟩)
      have o8 : Ok X.K ad F' H' (some res :: some (putAtO o k.toD o') :: E2) (some w' :: some (.ref a) :: σ) (fres ++ (fp' ++ fe)) :=
        ⟨o7.sub, .put rres (.put rp' rEe), nd8, fun z hz => by
          rcases List.mem_cons.mp (pm8.mem_iff.mp hz) with rfl | hz
          · exact Fa'
          · exact nf7 z hz⟩
      obtain ⟨f3, o9, ms3, k3⟩ := Ok.frame' (P := [some res]) (PS := [some w']) rfl o8
      obtain ⟨g3, o10, hm4⟩ := o9.putAt hnone hvv
      obtain ⟨g4, o11, s11⟩ := k3 (Step.perm fun x hx => (hm4 x).mp hx) o10
      have st8 : Step F2 H2 (fo ++ f2) F' H' (fres ++ (fp' ++ fe)) := by
        have h := st.more (g := fo ++ f2) in6
        refine ⟨h.f, h.h, h.g, h.t, fun c hc => ?_⟩
        rcases List.mem_cons.mp (pm8.mem_iff.mp hc) with rfl | hc
        · exact .inl (List.mem_append_left _ ain)
        · exact h.n c hc
      exact q F' H' w' g4 (s1.trans (sb.trans (sg.trans (s5.trans (st8.trans s11))))) o11
theorem s_methAt {x : Str} {p px : Pos} {name : Str} {id : String} {r : V → List V → Hp → VK → Prop} {u : O → List O → Option (O × O)} (i : Nat) (hu : X.A.units + 65 < cLine) (slot : Slot "list" name id) (hty : typeOf (.builtin id) = pure (.type "method_descriptor")) (hm : MtR X id r) (pr : MPrm X ad r u)
    (hb : SE X ad W b mk) (hi : X.N[i]? = some x) (hv : Vis X.env.scope x) (ha : SA X ad W (e :: es) ms) (hd1 : (x == ("__debug__" : Str)) = false := by decide) (hcd : (x == ("__classdict__" : Str)) = false := by decide)
    (hs1 : PlainIx b := by exact fun _ _ => rfl)
    (hbase : attributeBase (.Subscript (.Name x p) b px) name X.env (eval (.Subscript (.Name x p) b px) X.env) = eval (.Subscript (.Name x p) b px) X.env := by rfl)
    (hfew : ((backTo cpos (starEach (e :: es) X.env)).all (fun x => !x.1) && (backToKw cpos (keywordEach [] X.env)).all (fun x => x.1.isSome)
      && decide ((e :: es).length + ([] : List Keyword).length + (if ([] : List Keyword).isEmpty then 0 else 1) < 30)) = true := by rfl)
    (hline : (apos.endLine == cpos.line) = true := by rfl) (hs : starEach (e :: es) X.env = (false, eval e X.env) :: starEach es X.env := by rfl) (hplain : (backTo cpos (starEach es X.env)).any (·.1) = false := by rfl) :
    SE X ad W (.Call (.Attribute (.Subscript (.Name x p) b px) name apos) (e :: es) [] cpos) (mMethAt u i mk ms) := by
  obtain ⟨tb, pb, qb⟩ := hb.ex
  obtain ⟨ta, pa, qa⟩ := ha.ex
  exact ⟨_, pe_bm PySem.F.plainAttrs_list slot hty hm (pe_ix (ix_item hu) (pe_var hi hv hd1 hcd) pb hs1) pa hbase hfew hline hs hplain, methAt_core qb qa pr⟩
end

/-! ### place[i] = value -/
def rSet2 : TSet := fun o i v H Q => rSetL o i v H Q ∨ ∃ a H', o = .ref a ∧ DPut H a i v H' ∧ Q H'
section
variable {X : Cx} {ad : Nat → Addr} {W : WX} {b : Expr} {mk : M O} {pos : Pos}
theorem set_2 (hu : X.A.units + 65 < cLine) : PSet X rSet2 := by
  intro pins s σ H o i v ov iv u Q I ro ri rv h
  rcases h with h | ⟨a, H', rfl, g, q⟩
  · exact set_list pins s σ H o i v ov iv u Q I ro ri rv h
  · obtain rfl : ov = Value.ref a := ro
    exact d_setItem (by omega) I g ri rv fun s' I' => ⟨H', I', q⟩
theorem putK_keys {ws : List (Key × V)} {kk : Key} {v : V} : (ws.any fun kv => decide (kv.1 = kk)) = false → ws.map (fun kv => if kv.1 = kk then (kv.1, v) else kv) = ws := fun h => by
  induction ws with
  | nil => rfl
  | cons p r ih =>
    rw [List.any_cons, Bool.or_eq_false_iff] at h
    have hp : ¬ p.1 = kk := of_decide_eq_false h.1
    rw [List.map_cons, if_neg hp, ih h.2]
theorem RepK.put {K : PySem.W.Frag} {F H : Hp} {x : O} {v : V} {k : KK} {fx : List Addr} : ∀ {os : List (KK × O)} {ws : List (Key × V)} {fp : List Addr}, RepK K ad F H os ws fp → (os.map (·.1)).Nodup → Rep K ad F H x v fx →
    ∃ g d, RepK K ad F H (putO os k x) (putK ws (tk k) v) g ∧ (d ++ g).Perm (fx ++ fp) ∧ ((putO os k x).map (·.1)).Nodup ∧ (∀ j, j ∈ (putO os k x).map (·.1) → j = k ∨ j ∈ os.map (·.1))
  | _, _, _, .nil, _, q => ⟨fx ++ [], [], by unfold putO putK; simpa using RepK.cons q .nil, by simp, by unfold putO; simp, fun j h => .inl (by unfold putO at h; simpa using h)⟩
  | _, _, _, .cons (k := j) (o := y) (v := w) (os := os) (vs := ws) (f := f1) (g := g1) h r, nd, q => by
    have nd' := List.nodup_cons.mp (by simpa using nd : (j :: os.map (·.1)).Nodup)
    by_cases e : j = k
    · subst e
      have hno : (ws.any fun kv => decide (kv.1 = tk j)) = false := by
        rw [Bool.eq_false_iff]
        intro hh
        obtain ⟨p, hp, hd⟩ := List.any_eq_true.mp hh
        have hd := of_decide_eq_true hd
        have : p.1 ∈ ws.map (·.1) := List.mem_map_of_mem hp
        rw [r.toL.2] at this
        obtain ⟨p2, m2, e2⟩ := List.mem_map.mp this
        have : p2.1 = j := tk_inj (e2.trans hd)
        exact nd'.1 (this ▸ List.mem_map_of_mem m2)
      have e1 : putO ((j, y) :: os) j x = (j, x) :: os := by unfold putO; rw [if_pos rfl]
      have e2 : putK ((tk j, w) :: ws) (tk j) v = (tk j, v) :: ws := by
        unfold putK
        rw [if_pos (by simp), List.map_cons, if_pos rfl, putK_keys hno]
      rw [e1, e2]
      refine ⟨fx ++ g1, f1, .cons q r, ?_, by simpa using nd, fun i hi => .inr (by simpa using hi)⟩
      rw [← List.append_assoc, ← List.append_assoc]
      exact List.Perm.append_right _ List.perm_append_comm
    · obtain ⟨g, d, a, p, n1, n2⟩ := RepK.put r nd'.2 q
      have e1 : putO ((j, y) :: os) k x = (j, y) :: putO os k x := by conv => lhs; unfold putO; rw [if_neg e]
      have ne : ¬ tk j = tk k := fun h => e (tk_inj h)
      have e2 : putK ((tk j, w) :: ws) (tk k) v = (tk j, w) :: putK ws (tk k) v := by
        unfold putK
        simp only [List.any_cons, decide_eq_false ne, Bool.false_or]
        by_cases hh : (ws.any fun kv => decide (kv.1 = tk k)) = true
        · rw [if_pos hh, if_pos hh, List.map_cons, if_neg ne]
        · rw [if_neg hh, if_neg hh]; rfl
      rw [e1, e2]
      refine ⟨f1 ++ g, d, .cons h a, ?_, ?_, fun i hi => ?_⟩
      · have h1 : (d ++ (f1 ++ g)).Perm (f1 ++ (d ++ g)) := by
          rw [← List.append_assoc, ← List.append_assoc]
          exact List.Perm.append_right _ List.perm_append_comm
        refine h1.trans ((List.Perm.append_left f1 p).trans ?_)
        rw [← List.append_assoc, ← List.append_assoc]
        exact List.Perm.append_right _ List.perm_append_comm
      · rw [List.map_cons, List.nodup_cons]
        refine ⟨fun h => ?_, n1⟩
        rcases n2 j h with h | h
        · exact e h
        · exact nd'.1 h
      · rw [List.map_cons] at hi
        rcases List.mem_cons.mp hi with rfl | hi
        · exact .inr (by simp)
        · rcases n2 i hi with h | h
          · exact .inl h
          · exact .inr (by rw [List.map_cons]; exact List.mem_cons_of_mem _ h)
theorem perm_sub {d g fx fp : List Addr} (p : (d ++ g).Perm (fx ++ fp)) (nd : (fp ++ fx).Nodup) : g.Nodup ∧ ∀ z ∈ g, z ∈ fp ++ fx := by
  have pm : (d ++ g).Perm (fp ++ fx) := p.trans List.perm_append_comm
  exact ⟨(List.nodup_append.mp (pm.nodup_iff.mpr nd)).2.1, fun z hz => pm.mem_iff.mp (List.mem_append_right _ hz)⟩
def AftG (K : PySem.W.Frag) (ad : Nat → Addr) (W : WX) (sl : List Nat) (F H : Hp) (f : List Addr) (σ : L2.St) (r : R Unit) (Q : L2.St → Hp → Prop) : Prop := match r with
  | .ok _ E' => ∀ F' H' σ' f', Step F H f F' H' f' → Ok K ad F' H' E' σ' f' → Df sl σ σ' → Q σ' H'
  | .exc c E' => ∀ F' H' f', Step F H f F' H' f' → Ok K ad F' H' E' σ f' → W (.ref (ad c)) none σ H'
  | .bad => False
theorem g_sub {x : Str} {px : Pos} (i : Nat) (hu : X.A.units + 65 < cLine) (hb : SE X ad W b mk) (hN : X.N[i]? = some x) (hv : Vis X.env.scope x) (hd : (x == ("__debug__" : Str)) = false := by decide) (hcd : (x == ("__classdict__" : Str)) = false := by decide)
    (ha : ∀ v, assign (.Subscript (.Name x px) b pos) X.env v = (do
      let ov ← holding [v] (eval (.Name x px) X.env)
      let iv ← holding [v, ov] (eval b X.env)
      standAt pos
      holding [v, ov, iv] (setItem ov iv v)
      release [v, ov, iv] []) := by intro _; rfl) : SG X ad W [] (.Subscript (.Name x px) b pos) (tSub i mk) := by
  obtain ⟨tb, pb, qb⟩ := hb.run
  refine ⟨_, pg_sub (pe_var hN hv hd hcd) pb (set_2 hu) ha, fun F H E σ f y v Q ok q => ?_⟩
  replace q : AftG X.K ad W [] F H f σ (tSub i mk y E) Q := q
  unfold tSub at q
  split at q
  case h_2 => exact q.elim
  next o0 h0 =>
  obtain ⟨g0, ok0, _⟩ := ok.tl'
  obtain ⟨ov, _, _, hvv, _⟩ := ok0.rep.at h0
  refine ⟨ov, hvv, ?_⟩
  refine qb [some y] [some v] F H E σ f _ rfl ok ?_
  cases hm : mk E with
  | bad => rw [hm] at q; exact q
  | exc c E1 => rw [hm] at q; exact fun F' H' f' s o => q F' H' f' s o
  | ok k E1 =>
    rw [hm, bind_ok] at q
    intro F1 H1 iv f1 s1 o1
    have o1 : Ok X.K ad F1 H1 (some y :: some k :: E1) (some v :: some iv :: σ) f1 := o1
    obtain ⟨_, ot, _⟩ := o1.tl'
    have ik := ot.isHead
    obtain ⟨g2, o2, m2⟩ := o1.del2
    split at q
    case h_2 => exact q.elim
    next o ho =>
    split at q
    case h_2 => exact q.elim
    next o' hset =>
    have ho2 : (some y :: E1)[i + 1]? = some (some o) := by simpa using ho
    obtain ⟨v3, g3, e3, o3, hm3⟩ := o2.take ho2
    have ev : v3 = ov := by
      have : σ[i]? = some (some v3) := by simpa using e3
      rw [hvv] at this; simpa using this.symm
    subst ev
    have o3 : Ok X.K ad F1 H1 (some o :: ([y].map some ++ E1.set i none)) (some v3 :: ([v].map some ++ σ)) g3 := by simpa using o3
    have s3 : Step F H f F1 H1 g3 := s1.trans ((Step.perm m2).trans (Step.perm fun x hx => (hm3 x).mp hx))
    have hn : (E1.set i none)[i]? = some none := by
      have := (List.getElem?_eq_some_iff.mp ho).1
      simp [List.getElem?_set, this]
    have fin : ∀ {H' : Hp} {f' : List Addr}, Step F1 H1 g3 F1 H' f' → Ok X.K ad F1 H' (some (.fz .non) :: some o' :: E1.set i none) (some .non :: some v3 :: σ) f' → Q σ H' := fun {H' f'} st o4 => by
      obtain ⟨g5, o5, s5⟩ := o4.tl'
      obtain ⟨g6, o6, hm6⟩ := o5.putAt hn hvv
      rw [List.set_set] at o6
      exact q F1 H' σ g6 (s3.trans (st.trans (s5.trans (Step.perm fun x hx => (hm6 x).mp hx)))) o6 .refl
    cases o with
    | fz d => cases hset
    | ptp ds => cases hset
    | lst os =>
      obtain ⟨a, vs, fo, fx, f2, rfl, rfl, h, rl, rx, rE⟩ := o3.lstParts rfl
      unfold setO at hset
      simp only at hset
      split at hset
      case h_2 => cases hset
      next z hz =>
      split at hset
      case h_2 => cases hset
      next j hj =>
      cases hset
      have kz : iv = .int z := by
        rw [hz] at ik; cases ik; rfl
      subst kz
      cases rx with
      | @cons _ _ _ _ fy fn ry rn =>
      cases rn
      obtain ⟨g, rg, d, pm⟩ := rl.set (j := j) ry
      rw [List.append_nil] at *
      obtain ⟨n1, n2⟩ := perm_sub pm (nodup_mid o3.nd)
      have w := Ok.write (n := .lst (vs.set j v)) (o := .lst os) (o' := .lst (os.set j y)) (res := .fz .non) (v := .non) (fr := []) (fo' := g) o3.sub o3.nd o3.nf (by rw [h]; simp) rE (rl.tracked (by simpa using RepL.cons ry .nil)) (.fz .non)
        (by simpa using n1) (fun z hz => n2 z (by simpa using hz)) fun H' kp ha => .lst ha (rg.mono (Same.refl _) fun z hz u e => kp z u (not_a o3.nd z (n2 z hz)) e)
      refine .inl ⟨a, vs, z, j, rfl, rfl, h, by rw [← rl.length]; exact hj, fin w.1 w.2⟩
    | dct kvs =>
      have r := o3.rep
      cases r with
      | @put _ _ _ _ fo0 fr0 ro r =>
      cases ro with
      | @dct a _ ws fo h nd rk =>
      cases r with
      | @put _ _ _ _ fx f2 rx rE =>
      unfold setO at hset
      simp only at hset
      split at hset
      case h_2 => cases hset
      next j hj =>
      split at hset
      case isFalse => cases hset
      next hsz =>
      cases hset
      obtain ⟨g, d, rg, pm, nn, _⟩ := rk.put (k := j) nd rx
      have nd3 : ((a :: fo) ++ (fx ++ f2)).Nodup := o3.nd
      obtain ⟨n1, n2⟩ := perm_sub pm (nodup_mid nd3)
      have tr : ∀ z ∈ fo ++ fx, ∃ u, H1 z = some u := fun z hz => by
        rcases List.mem_append.mp hz with q | q
        · exact rk.trk z q
        · exact rx.trk z q
      have w := Ok.write (n := .dK (putK ws (tk j) v)) (o := .dct kvs) (o' := .dct (putO kvs j y)) (res := .fz .non) (v := .non) (fr := []) (fo' := g) o3.sub nd3 o3.nf (by rw [h]; simp) rE tr (.fz .non)
        (by simpa using n1) (fun z hz => n2 z (by simpa using hz)) fun H' kp ha => .dct ha nn (rg.mono (Same.refl _) fun z hz u e => kp z u (not_a nd3 z (n2 z hz)) e)
      have el : kvs.length = ws.length := by
        have := rk.toL.1.length
        simpa using this
      refine .inr ⟨a, _, rfl, ?_, fin w.1 w.2⟩
      rw [tk_kV ik hj]
      exact DPut.k h (by omega)
end
end Mn

set_option Elab.async false
set_option linter.all false
set_option maxRecDepth 100000
set_option maxHeartbeats 4000000
namespace Mn
open PySem PySem.Spec PyProof.Rows L2

/-! ### slices -/
def AftP (K : PySem.W.Frag) (ad : Nat → Addr) (W : WX) (P : En) (PS : L2.St) (F H : Hp) (f : List Addr) (σ : L2.St) (r : R (Option Int)) (Q : Option Int → Hp → Prop) : Prop := match r with
  | .ok oi E' => ∀ F' H' f', Step F H f F' H' f' → Ok K ad F' H' (P ++ E') (PS ++ σ) f' → Q oi H'
  | .exc c E' => ∀ F' H' f', Step F H f F' H' f' → Ok K ad F' H' E' σ f' → W (.ref (ad c)) none σ H'
  | .bad => False
structure SPo (X : Cx) (ad : Nat → Addr) (W : WX) (oe : Option Expr) (m : M (Option Int)) : Prop where
  ex : ∃ t, PO X oe t ∧ ∀ F H E σ f P PS Q, P.length = PS.length → Ok X.K ad F H (P ++ E) (PS ++ σ) f →
    AftP X.K ad W P PS F H f σ (m E) Q → t σ H Q
def mNo : M (Option Int) := fun E => .ok none E
def O.int? : O → Option Int
  | .fz (.int i) => some i
  | _ => none
theorem int?_eq {o : O} {i : Int} (h : o.int? = some i) : o = .fz (.int i) := by
  unfold O.int? at h
  split at h
  · cases h; rfl
  · cases h
def mPart (m : M O) : M (Option Int) := fun E => (m E).bind fun o E1 => match o.int? with
  | some i => .ok (some i) E1
  | none => .bad
def cutL {α : Type} (xs : List α) (lo hi : Option Int) : List α := (xs.drop (HT.sIx xs.length 0 lo)).take (HT.sIx xs.length xs.length hi - HT.sIx xs.length 0 lo)
def cutO (lo hi : Option Int) : D → Option O
  | .str s => if s.length ≤ sizeLine then some (.fz (.str (cutL s lo hi))) else none
  | .tup ds => if ds.length ≤ sizeLine then some (.fz (.tup (cutL ds lo hi))) else none
  | .lst ds => some (.lst ((cutL ds lo hi).map O.fz))
  | _ => none
def mSlice (ma : M O) (ml mh : M (Option Int)) : M O := fun E => (ma E).bind fun a E1 => (ml E1).bind fun lo E2 => (mh E2).bind fun hi E3 => match cutO lo hi a.toD with
  | some o => .ok o E3
  | none => .bad
def rSl3 (K : PySem.W.Frag) : V → Option Int → Option Int → Hp → VK → Prop := fun x lo hi H Q => rSlS x lo hi H Q ∨ (rSlL K x lo hi H Q ∨ rSlA K x lo hi H Q)
section
variable {X : Cx} {ad : Nat → Addr} {W : WX} {e : Expr} {m ma : M O} {ml mh : M (Option Int)} {lo hi : Option Expr} {pos p2 : Pos}
theorem IsL.cut {K : PySem.W.Frag} {H : Hp} {ds : List D} {vs : List V} (r : IsL K ad H ds vs) (lo hi : Option Int) : IsL K ad H (cutL ds lo hi) (cutV vs lo hi) := by
  unfold cutL cutV
  rw [r.length]
  exact (r.drop _).take _
theorem o_no : SPo X ad W none mNo := ⟨_, po_none, fun F H E σ f P PS Q hl ok q => q F H f (Step.refl _ _ _) ok⟩
theorem o_part (h : SE X ad W e m) : SPo X ad W (some e) (mPart m) := by
  obtain ⟨te, p, q⟩ := h.run
  refine ⟨_, po_some p, fun F H E σ f P PS Q hl ok z => q P PS F H E σ f _ hl ok ?_⟩
  unfold mPart at z
  cases hm : m E with
  | exc c E1 => rw [hm] at z; exact z
  | bad => rw [hm] at z; exact z
  | ok o E1 =>
    rw [hm, bind_ok] at z
    intro F1 H1 v f1 s1 o1
    obtain ⟨g, o2, _, k2⟩ := Ok.frame' hl o1
    have hI := fun d (h : o = .fz d) => Ok.head (d := d) (by subst h; exact o2)
    obtain ⟨g2, o3, s3⟩ := o2.tl'
    obtain ⟨g3, o4, s4⟩ := k2 s3 o3
    cases hi : o.int? with
    | none => rw [hi] at z; exact z.elim
    | some i =>
      rw [hi] at z
      have := hI _ (int?_eq hi)
      cases this
      exact ⟨i, rfl, z F1 H1 g3 (s1.trans s4) o4⟩
theorem sl_3 : SlR X (rSl3 X.K) := sl_str.or (sl_list.or sl_tupA)
theorem s_slice (he : SE X ad W e ma) (hl : SPo X ad W lo ml) (hh : SPo X ad W hi mh) : SE X ad W (.Subscript e (.Slice lo hi none p2) pos) (mSlice ma ml mh) := by
  obtain ⟨te, pe, qe⟩ := he.ex
  obtain ⟨tl, pl, ql⟩ := hl.ex
  obtain ⟨th, ph, qh⟩ := hh.ex
  refine ⟨_, pe_slice sl_3 pe pl ph, fun F H E σ f Q ok q => qe F H E σ f _ ok ?_⟩
  unfold mSlice at q
  cases hm : ma E with
  | exc c E1 => rw [hm] at q; exact fun F' H' f' s o => q F' H' f' s o
  | bad => rw [hm] at q; exact q
  | ok a E1 =>
    rw [hm, bind_ok] at q
    intro F1 H1 v f1 s1 o1
    refine ql F1 H1 E1 σ f1 [some a] [some v] _ rfl o1 ?_
    cases hm2 : ml E1 with
    | exc c E2 => rw [hm2] at q; exact fun F' H' f' s o => q F' H' f' (s1.trans s) o
    | bad => rw [hm2] at q; exact q
    | ok l E2 =>
      rw [hm2, bind_ok] at q
      intro F2 H2 f2 s2 o2
      refine qh F2 H2 E2 σ f2 [some a] [some v] _ rfl o2 ?_
      cases hm3 : mh E2 with
      | exc c E3 => rw [hm3] at q; exact fun F' H' f' s o => q F' H' f' (s1.trans (s2.trans s)) o
      | bad => rw [hm3] at q; exact q
      | ok h E3 =>
        rw [hm3, bind_ok] at q
        intro F3 H3 f3 s3 o3
        obtain ⟨F4, f4, s4, o4, _⟩ := Ok.freeze (o := a) (v := v) o3
        have iv := o4.head
        obtain ⟨f5, o5, s5⟩ := o4.tl'
        have st := s1.trans (s2.trans (s3.trans (s4.trans s5)))
        cases hc : cutO l h a.toD with
        | none => rw [hc] at q; exact q.elim
        | some o =>
          rw [hc] at q
          generalize a.toD = d at iv hc
          cases iv with
          | str s =>
            have hc : (if s.length ≤ sizeLine then some (O.fz (.str (cutL s l h))) else none) = some o := hc
            by_cases hz : s.length ≤ sizeLine
            · rw [if_pos hz] at hc
              cases hc
              refine .inl ⟨_, rfl, by simpa [PySem.Str.length] using hz, ?_⟩
              have e : cutS (⟨s.toArray⟩ : PySem.Str) l h = ⟨(cutL s l h).toArray⟩ := by
                unfold cutS cutL
                simp [PySem.Str.length]
              rw [e]
              exact q F4 H3 _ f5 st (o5.dat (.str _))
            · rw [if_neg hz] at hc; cases hc
          | @tup p ds vs hs r =>
            have hc : (if ds.length ≤ sizeLine then some (O.fz (.tup (cutL ds l h))) else none) = some o := hc
            by_cases hz : ds.length ≤ sizeLine
            · rw [if_pos hz] at hc
              cases hc
              refine .inr (.inr ⟨p, vs, rfl, Same.sqT o4.sub hs, fun hw => ?_, fun hw n hn => ?_⟩)
              · have e : cutL ds l h = ds := by
                  unfold cutL
                  rw [r.length, hw.1, hw.2]
                  exact List.take_of_length_le (by simp [r.length])
                rw [e] at q
                exact q F4 H3 _ f5 st (o5.dat (.tup hs r))
              · obtain ⟨s6, o6⟩ := o5.newTup hn (Nat.le_trans (cutV_length vs l h) (by rw [← r.length]; exact hz)) (r.cut l h)
                exact q _ _ _ _ (st.trans s6) o6
            · rw [if_neg hz] at hc; cases hc
          | @lst p ds vs hs r =>
            cases hc
            refine .inr (.inl ⟨p, vs, rfl, .inl (.inl (o4.sub _ _ hs)), fun n hn => ?_⟩)
            have o6 : Ok X.K ad F4 H3 (((cutL ds l h).map O.fz).map some ++ E3) ((cutV vs l h).map some ++ σ) ([] ++ f5) :=
              ⟨o5.sub, RepE.append (RepE.ofL (RepL.ofIs (r.cut l h))) o5.rep, by simpa using o5.nd, fun x hx => o5.nf x (by simpa using hx)⟩
            obtain ⟨s7, o7⟩ := o6.newLst (P := []) (PS := []) (by simp [(r.cut l h).length]) hn
            exact q _ _ _ _ (st.trans s7) o7
          | _ => cases hc
/-- xs[::-1] -/
def revO : D → Option O
  | .lst ds => some (.lst (ds.reverse.map O.fz))
  | _ => none
def mRev (ma : M O) : M O := fun E => (ma E).bind fun a E1 => match revO a.toD with
  | some o => .ok o E1
  | none => .bad
theorem IsL.reverse {K : PySem.W.Frag} {H : Hp} {ds : List D} {vs : List V} (r : IsL K ad H ds vs) : IsL K ad H ds.reverse vs.reverse := by
  have gen : ∀ {ds : List D} {vs : List V}, IsL K ad H ds vs → IsL K ad H ds.reverse vs.reverse := fun {ds} => by
    induction ds with
    | nil => intro vs r; cases r; exact .nil
    | cons d ds ih =>
      intro vs r
      cases r with
      | cons a r => rw [List.reverse_cons, List.reverse_cons]; exact (ih r).append (.cons a .nil)
  exact gen r
theorem s_rev {k : Nat} {p1 p3 : Pos} (he : SE X ad W e ma) : SE X ad W (.Subscript e (.Slice none none (some (.UnaryOp .USub (.Constant (.int 1) k p1) p2)) p3) pos) (mRev ma) := by
  obtain ⟨te, pe, qe⟩ := he.ex
  refine ⟨_, pe_revL pe, fun F H E σ f Q ok q => qe F H E σ f _ ok ?_⟩
  unfold mRev at q
  cases hm : ma E with
  | exc c E1 => rw [hm] at q; exact fun F' H' f' s o => q F' H' f' s o
  | bad => rw [hm] at q; exact q
  | ok a E1 =>
    rw [hm, bind_ok] at q
    intro F1 H1 v f1 s1 o1
    obtain ⟨F4, f4, s4, o4, _⟩ := o1.freeze
    have iv := o4.head
    obtain ⟨f5, o5, s5⟩ := o4.tl'
    have st := s1.trans (s4.trans s5)
    cases hc : revO a.toD with
    | none => rw [hc] at q; exact q.elim
    | some o =>
      rw [hc] at q
      generalize a.toD = d at iv hc
      cases iv with
      | @lst p ds vs hs r =>
        cases hc
        refine ⟨p, vs, rfl, .inl (.inl (o4.sub _ _ hs)), fun n hn => ?_⟩
        have o6 : Ok X.K ad F4 H1 ((ds.reverse.map O.fz).map some ++ E1) (vs.reverse.map some ++ σ) ([] ++ f5) :=
          ⟨o5.sub, RepE.append (RepE.ofL (RepL.ofIs r.reverse)) o5.rep, by simpa using o5.nd, fun x hx => o5.nf x (by simpa using hx)⟩
        obtain ⟨s7, o7⟩ := o6.newLst (P := []) (PS := []) (by simp [r.length]) hn
        exact q _ _ _ _ (st.trans s7) o7
      | _ => cases hc
end
end Mn

set_option Elab.async false
set_option linter.all false
set_option maxRecDepth 100000
set_option maxHeartbeats 4000000
namespace Mn
open PySem PySem.Spec PyProof.Rows L2

def mk (s : List Nat) : PySem.Str := ⟨s.toArray⟩
theorem mk_cps (x : PySem.Str) : mk x.cps.toList = x := rfl
theorem mk_len (s : List Nat) : (mk s).length = s.length := by simp [mk, PySem.Str.length]

/-! ### numbers, of one and of two -/
def dOfInt : D → Option D
  | .int i => some (.int i)
  | .bl b => some (.int (if b then 1 else 0))
  | .str s => if s.length ≤ 640 then (PySem.intText? (mk s)).map D.int else none
  | _ => none
def dOfStr : D → Option D
  | .int i => if i.natAbs.log2 < 1920 then some (.str ((toString i : PySem.Str)).cps.toList) else none
  | .str s => none
  | _ => none
def dAbs : D → Option D
  | .int i => some (.int (if i < 0 then -i else i))
  | _ => none
def dOrdC : D → Option D
  | .str [c] => some (.int (c : Int))
  | _ => none
section
variable {X : Cx} {ad : Nat → Addr} {W : WX}
theorem is_strX {K : PySem.W.Frag} {H : Hp} (x : PySem.Str) : Is K ad H (.str x.cps.toList) (.str x) := by
  have := Is.str (K := K) (ad := ad) (H := H) x.cps.toList
  exact this
def rInt1 : List V → Hp → VK → Prop := fun xs H Q => ((∃ i, xs = [.int i] ∧ Q (.int i) H) ∨ ∃ k, xs = [.bl k] ∧ Q (.int (if k then 1 else 0)) H) ∨ ∃ a n, xs = [.str a] ∧ PySem.intText? a = some n ∧ a.length ≤ 640 ∧ Q (.int n) H
theorem c_int : CallR X (.type "int") rInt1 := call_int1.or call_int_str
theorem k_int : Prm X ad rInt1 (g1 dOfInt) := prm_1 fun H a x d Q r e q => by
  cases r with
  | int i => cases e; exact .inl (.inl ⟨i, rfl, q _ fun F => .int _⟩)
  | bl b => cases e; exact .inl (.inr ⟨b, rfl, q _ fun F => .int _⟩)
  | str s =>
    have e : (if s.length ≤ 640 then (PySem.intText? (mk s)).map D.int else none) = some d := e
    by_cases h : s.length ≤ 640
    · rw [if_pos h] at e
      cases h2 : PySem.intText? (mk s) with
      | none => rw [h2] at e; cases e
      | some n => rw [h2] at e; cases e; exact .inr ⟨_, n, rfl, h2, by have := mk_len s; simpa [mk] using (this.symm ▸ h), q _ fun F => .int _⟩
    · rw [if_neg h] at e; cases e
  | _ => cases e
theorem k_str : Prm X ad (fun xs H Q => ∃ i : Int, xs = [.int i] ∧ i.natAbs.log2 < 1920 ∧ Q (.str (toString i)) H) (g1 dOfStr) := prm_1 fun H a x d Q r e q => by
  cases r with
  | int i =>
    have e : (if i.natAbs.log2 < 1920 then some (D.str ((toString i : PySem.Str)).cps.toList) else none) = some d := e
    by_cases h : i.natAbs.log2 < 1920
    · rw [if_pos h] at e
      cases e
      exact ⟨i, rfl, h, q _ fun F => is_strX _⟩
    · rw [if_neg h] at e; cases e
  | _ => cases e
theorem k_abs : Prm X ad (fun xs H Q => ∃ i : Int, xs = [.int i] ∧ Q (.int (if i < 0 then -i else i)) H) (g1 dAbs) := prm_1 fun H a x d Q r e q => by
  cases r with
  | int i => cases e; exact ⟨i, rfl, q _ fun F => .int _⟩
  | _ => cases e
theorem k_ordC : Prm X ad (fun xs H Q => ∃ x : PySem.Str, xs = [.str x] ∧ x.length = 1 ∧ Q (.int (x.cps.getD 0 0 : Nat)) H) (g1 dOrdC) := prm_1 fun H a x d Q r e q => by
  unfold dOrdC at e
  split at e
  · next c => cases r; cases e; exact ⟨_, rfl, rfl, q _ fun F => .int _⟩
  · cases e
def pMax2 : List O → Option O := fun os => (dII (fun i j => .int (if j > i then j else i)) (O.toDs os)).map O.fz
def pMin2 : List O → Option O := fun os => (dII (fun i j => .int (if j < i then j else i)) (O.toDs os)).map O.fz
theorem prm_II' {r : List V → Hp → VK → Prop} {k : Int → Int → D} {g : Int → Int → V} (hr : ∀ i j H Q, Q (g i j) H → r [.int i, .int j] H Q) (h : ∀ i j F, Is X.K ad F (k i j) (g i j)) : Prm X ad r (fun os => (dII k (O.toDs os)).map O.fz) :=
  (prm_II h).imp fun vs H Q ⟨x, y, e, i, j, ex, ey, q⟩ => by subst e ex ey; exact hr i j H Q q
theorem k_max2 : Prm X ad (fun xs H Q => ∃ i j : Int, xs = [.int i, .int j] ∧ Q (.int (if j > i then j else i)) H) pMax2 := prm_II' (g := fun i j => .int (if j > i then j else i)) (fun i j H Q q => ⟨i, j, rfl, q⟩) fun _ _ _ => .int _
theorem k_min2 : Prm X ad (fun xs H Q => ∃ i j : Int, xs = [.int i, .int j] ∧ Q (.int (if j < i then j else i)) H) pMin2 := prm_II' (g := fun i j => .int (if j < i then j else i)) (fun i j H Q q => ⟨i, j, rfl, q⟩) fun _ _ _ => .int _
def pDivmod : List O → Option O
  | [.fz (.int i), .fz (.int j)] => if 0 < j ∧ Builtin.divisionGoesByPylong i j = false then some (.fz (.tup [.int (i / j), .int (i % j)])) else none
  | _ => none
theorem k_divmod : Prm X ad (fun xs H Q => ∃ i j, xs = [.int i, .int j] ∧ CDivP i j ∧ ∀ p, H p = none → Q (.ref p) (upd H p (.tup [.int (i / j), .int (i % j)]))) pDivmod := by
  refine ⟨fun F H os vs E σ f Q ok hl q => ?_⟩
  unfold pDivmod at q
  split at q
  · next o hg =>
    split at hg
    · next i j =>
      split at hg
      · next hh =>
        cases hg
        match vs, hl, ok with
        | [v, u], hl, ok =>
          have h1 := Ok.head (E := _ :: E) (σ := _ :: σ) (v := v) ok
          cases h1
          obtain ⟨f2, o2, s2⟩ := Ok.tl' (E := _ :: E) (σ := _ :: σ) ok
          have h2 := Ok.head (E := E) (σ := σ) (v := u) o2
          cases h2
          obtain ⟨f3, o3, s3⟩ := Ok.tl' (E := E) (σ := σ) o2
          refine ⟨i, j, rfl, hh, fun p n => ?_⟩
          obtain ⟨s4, o4⟩ := o3.newTup n (by simp only [List.length_cons, List.length_nil]; rw [sizeLine_eq]; decide) (.cons (.int (i / j)) (.cons (.int (i % j)) .nil))
          exact q _ _ _ _ (s2.trans (s3.trans s4)) o4
      · cases hg
    · cases hg
  · exact q.elim

/-! ### over a list -/
def intsOf : List D → Option (List Int)
  | [] => some []
  | .int i :: r => (intsOf r).map (i :: ·)
  | _ => none
def boolsOf : List D → Option (List Bool)
  | [] => some []
  | .bl i :: r => (boolsOf r).map (i :: ·)
  | _ => none
def strsOf : List D → Option (List (List Nat))
  | [] => some []
  | .str i :: r => (strsOf r).map (i :: ·)
  | _ => none
theorem ints_ok {K : PySem.W.Frag} {H : Hp} : ∀ {ds : List D} {vs : List V} {ns : List Int}, IsL K ad H ds vs → intsOf ds = some ns → vs = ns.map V.int
  | _, _, _, .nil, e => by cases e; rfl
  | _, _, ns, .cons (d := d) (ds := ds) a r, e => by
    cases a with
    | int i =>
      have e : (intsOf ds).map (i :: ·) = some ns := e
      cases h : intsOf ds with
      | none => rw [h] at e; cases e
      | some m => rw [h] at e; cases e; rw [ints_ok r h]; rfl
    | _ => cases e
theorem bools_ok {K : PySem.W.Frag} {H : Hp} : ∀ {ds : List D} {vs : List V} {ns : List Bool}, IsL K ad H ds vs → boolsOf ds = some ns → vs = ns.map V.bl
  | _, _, _, .nil, e => by cases e; rfl
  | _, _, ns, .cons (d := d) (ds := ds) a r, e => by
    cases a with
    | bl i =>
      have e : (boolsOf ds).map (i :: ·) = some ns := e
      cases h : boolsOf ds with
      | none => rw [h] at e; cases e
      | some m => rw [h] at e; cases e; rw [bools_ok r h]; rfl
    | _ => cases e
theorem strs_ok {K : PySem.W.Frag} {H : Hp} : ∀ {ds : List D} {vs : List V} {ns : List (List Nat)}, IsL K ad H ds vs → strsOf ds = some ns → vs = (ns.map mk).map V.str
  | _, _, _, .nil, e => by cases e; rfl
  | _, _, ns, .cons (d := d) (ds := ds) a r, e => by
    cases a with
    | str i =>
      have e : (strsOf ds).map (i :: ·) = some ns := e
      cases h : strsOf ds with
      | none => rw [h] at e; cases e
      | some m => rw [h] at e; cases e; rw [strs_ok r h]; rfl
    | _ => cases e
def dSum : D → Option D
  | .lst ds => (intsOf ds).map fun ns => .int ns.sum
  | _ => none
def dAll : D → Option D
  | .lst ds => (boolsOf ds).map fun ns => .bl (ns.all id)
  | _ => none
def dAny : D → Option D
  | .lst ds => (boolsOf ds).map fun ns => .bl (ns.any id)
  | _ => none
theorem k_sum : Prm X ad (rSum X.K) (g1 dSum) := prm_1 fun H a x d Q r e q => by
  cases r with
  | @lst p ds vs hs r =>
    have e : (intsOf ds).map (fun ns => D.int ns.sum) = some d := e
    cases h : intsOf ds with
    | none => rw [h] at e; cases e
    | some ns => rw [h] at e; cases e; exact ⟨p, ns, rfl, by rw [← ints_ok r h]; exact .inl (.inl hs), q _ fun F => .int _⟩
  | _ => cases e
theorem k_all : Prm X ad (rAll X.K) (g1 dAll) := prm_1 fun H a x d Q r e q => by
  cases r with
  | @lst p ds vs hs r =>
    have e : (boolsOf ds).map (fun ns => D.bl (ns.all id)) = some d := e
    cases h : boolsOf ds with
    | none => rw [h] at e; cases e
    | some ns => rw [h] at e; cases e; exact ⟨p, ns, rfl, by rw [← bools_ok r h]; exact .inl (.inl hs), q _ fun F => .bl _⟩
  | _ => cases e
theorem k_any : Prm X ad (rAny X.K) (g1 dAny) := prm_1 fun H a x d Q r e q => by
  cases r with
  | @lst p ds vs hs r =>
    have e : (boolsOf ds).map (fun ns => D.bl (ns.any id)) = some d := e
    cases h : boolsOf ds with
    | none => rw [h] at e; cases e
    | some ns => rw [h] at e; cases e; exact ⟨p, ns, rfl, by rw [← bools_ok r h]; exact .inl (.inl hs), q _ fun F => .bl _⟩
  | _ => cases e

/-! ### one argument, given free first -/
theorem prm_f {r : List V → Hp → VK → Prop} {g : D → Option O} (h : ∀ F H d x o E σ f Q, Ok X.K ad F H E σ f → Is X.K ad F d x → g d = some o → (∀ F' H' v f', Step F H f F' H' f' → Ok X.K ad F' H' (some o :: E) (some v :: σ) f' → Q v H') → r [x] H Q) :
    Prm X ad r (fun os => match os with
      | [a] => g a.toD
      | _ => none) := by
  refine ⟨fun F H os vs E σ f Q ok hl q => ?_⟩
  match os, vs, hl, ok, q with
  | [a], [x], hl, ok, q =>
    obtain ⟨F4, f4, s4, o4, _⟩ := Ok.freeze (o := a) (v := x) (E := E) (S := σ) ok
    have iv := o4.head
    obtain ⟨f5, o5, s5⟩ := o4.tl'
    cases hg : g a.toD with
    | none => simp only [hg] at q
    | some o =>
      simp only [hg] at q
      exact h F4 H a.toD x o E σ f5 Q o5 iv hg fun F' H' v f' s o' => q F' H' v f' (s4.trans (s5.trans s)) o'
  | [], _, _, _, q => exact q.elim
  | _ :: _ :: _, _, _, _, q => exact q.elim
def oTuple : D → Option O
  | .tup ds => some (.fz (.tup ds))
  | .lst ds => if ds.length ≤ sizeLine then some (.fz (.tup ds)) else none
  | _ => none
def pTuple : List O → Option O := fun os => match os with
  | [a] => oTuple a.toD
  | _ => none
theorem k_tuple : Prm X ad (fun xs H Q => ∃ p ys, xs = [.ref p] ∧ ((SqL X.K H p ys ∧ ∀ l, H l = none → Q (.ref l) (upd H l (.tup ys))) ∨ (SqT X.K H p ys ∧ Q (.ref p) H))) pTuple := prm_f fun F H d x o E σ f Q ok r e q => by
  cases r with
  | @tup p ds vs hs r =>
    cases e
    exact ⟨p, vs, rfl, .inr ⟨Same.sqT ok.sub hs, q F H _ f (Step.refl _ _ _) (ok.dat (.tup hs r))⟩⟩
  | @lst p ds vs hs r =>
    have e : (if ds.length ≤ sizeLine then some (O.fz (.tup ds)) else none) = some o := e
    by_cases h : ds.length ≤ sizeLine
    · rw [if_pos h] at e
      cases e
      refine ⟨p, vs, rfl, .inl ⟨.inl (.inl (ok.sub _ _ hs)), fun l n => ?_⟩⟩
      obtain ⟨s2, o2⟩ := ok.newTup n (by rw [← r.length]; exact h) r
      exact q _ _ _ _ s2 o2
    · rw [if_neg h] at e; cases e
  | _ => cases e
def oList : D → Option O
  | .tup ds => some (.lst (ds.map O.fz))
  | .lst ds => some (.lst (ds.map O.fz))
  | .scr ns => some (.lst (ns.map fun n => .fz (.int n)))
  | _ => none
def pList : List O → Option O := fun os => match os with
  | [a] => oList a.toD
  | _ => none
theorem IsL.ints {K : PySem.W.Frag} {H : Hp} : ∀ ns : List Int, IsL K ad H (ns.map D.int) (ns.map V.int)
  | [] => .nil
  | n :: ns => .cons (.int n) (IsL.ints ns)
theorem k_list : Prm X ad (fun xs H Q => ∃ p ys, xs = [.ref p] ∧ (SqL X.K H p ys ∨ SqT X.K H p ys) ∧ ∀ l, H l = none → Q (.ref l) (upd H l (.lst ys))) pList := prm_f fun F H d x o E σ f Q ok r e q => by
  have go : ∀ {ds : List D} {vs : List V} {l : Addr}, IsL X.K ad F ds vs → H l = none → o = .lst (ds.map O.fz) → Q (.ref l) (upd H l (.lst vs)) := fun {ds vs l} r n eo => by
    have o6 : Ok X.K ad F H ((ds.map O.fz).map some ++ E) (vs.map some ++ σ) ([] ++ f) :=
      ⟨ok.sub, RepE.append (RepE.ofL (RepL.ofIs r)) ok.rep, by simpa using ok.nd, fun x hx => ok.nf x (by simpa using hx)⟩
    obtain ⟨s7, o7⟩ := o6.newLst (P := []) (PS := []) (by simp [r.length]) n
    subst eo
    exact q _ _ _ _ s7 o7
  cases r with
  | @tup p ds vs hs r => cases e; exact ⟨p, vs, rfl, .inr (Same.sqT ok.sub hs), fun l n => go r n rfl⟩
  | @lst p ds vs hs r => cases e; exact ⟨p, vs, rfl, .inl (.inl (.inl (ok.sub _ _ hs))), fun l n => go r n rfl⟩
  | @scr p ns hs =>
    cases e
    exact ⟨p, _, rfl, .inl (Same.seq ok.sub hs), fun l n => go (IsL.ints ns) n (by simp [List.map_map, Function.comp_def])⟩
  | _ => cases e
/-- a list that is given free at once -/
def pListF : List O → Option O := fun os => match os with
  | [a] => (oList a.toD).map fun o => .fz o.toD
  | _ => none
theorem k_listF : Prm X ad (fun xs H Q => ∃ p ys, xs = [.ref p] ∧ (SqL X.K H p ys ∨ SqT X.K H p ys) ∧ ∀ l, H l = none → Q (.ref l) (upd H l (.lst ys))) pListF := by
  refine ⟨fun F H os vs E σ f Q ok hl q => k_list.ok F H os vs E σ f Q ok hl ?_⟩
  match os, q with
  | [a], q =>
    show (match oList a.toD with
      | some o => _
      | none => False)
    cases h : oList a.toD with
    | none => simp only [pListF, h] at q; exact q
    | some o =>
      simp only [pListF, h, Option.map_some] at q
      intro F' H' v f' st o'
      obtain ⟨F2, f2, s2, o2, _⟩ := o'.freeze
      exact q F2 H' v f2 (st.trans s2) o2
  | [], q => exact q.elim
  | _ :: _ :: _, q => exact q.elim

/-! ### isinstance -/
def tyName : D → Option String
  | .non => some "NoneType"
  | .bl _ => some "bool"
  | .int _ => some "int"
  | .str _ => some "str"
  | .tup _ => some "tuple"
  | .lst _ => some "list"
  | .dct _ => some "dict"
  | _ => none
def isTy (T : String) (d : D) : Option Bool := (tyName d).map fun t => t == T || (t == "bool" && T == "int")
theorem kit_tab : ∀ t ∈ ["NoneType", "bool", "int", "str", "tuple", "list", "dict"], ∀ T ∈ ["bool", "int", "str", "tuple", "list", "dict"], kitB t T = some (t == T || (t == "bool" && T == "int")) := by decide +kernel
theorem tyX_ok {K : PySem.W.Frag} {H : Hp} {d : D} {v : V} {t : String} (r : Is K ad H d v) (e : tyName d = some t) : TyX K H v (.type t) ∧ t ∈ ["NoneType", "bool", "int", "str", "tuple", "list", "dict"] := by
  cases r with
  | non => cases e; exact ⟨.base .non, by decide⟩
  | bl b => cases e; exact ⟨.base (.bl b), by decide⟩
  | int b => cases e; exact ⟨.base (.int b), by decide⟩
  | str b => cases e; exact ⟨.base (.str _), by decide⟩
  | tup hs r =>
    cases e
    refine ⟨?_, by decide⟩
    rcases hs with (h | ⟨o, h⟩) | h
    · exact .base (.tup h)
    · exact .fTuple h
    · obtain ⟨o, _, _, h1, h2, _⟩ := h
      exact .kTuple h1 h2
  | lst hs r => cases e; exact ⟨.base (.lst hs), by decide⟩
  | dct hs r => cases e; exact ⟨.base (.dK hs), by decide⟩
  | fn i => cases e
  | scr _ => cases e
def mIsi (T : String) (m : M O) : M O := fun E => (m E).bind fun o E1 => match isTy T o.toD with
  | some b => .ok (.fz (.bl b)) E1
  | none => .bad
theorem s_isi {e : Expr} {m : M O} {T : Str} {T' : String} {p pT pos : Pos} (hT : T' ∈ ["bool", "int", "str", "tuple", "list", "dict"]) (hm : X.mg "isinstance" = none) (hmT : X.mg T = none) (hvT : bootBuiltins T = some (.type T')) (he : SE X ad W e m) (hg : Gl X "isinstance" := by rfl) (hgT : Gl X T := by rfl)
    (hnT : T ≠ "__name__" := by decide) (hdT : (T == ("__debug__" : Str)) = false := by decide)
    (hs : starEach [e, .Name T pT] X.env = (false, eval e X.env) :: starEach [.Name T pT] X.env := by rfl) (hs2 : starEach [.Name T pT] X.env = (false, eval (.Name T pT) X.env) :: starEach [] X.env := by rfl) (hpl : (backTo pos (starEach [.Name T pT] X.env)).any (·.1) = false := by rfl) :
    SE X ad W (.Call (.Name "isinstance" p) [e, .Name T pT] [] pos) (mIsi T' m) := by
  obtain ⟨te, pe, qe⟩ := he.ex
  have pT' : PE X (.Name T pT) (tC (.ty T')) := pe_bltn hgT hmT hvT (show Value.type T' = Value.type T' from rfl) hnT hdT
  refine ⟨_, pe_callB call_isi hg hm (by decide +kernel) (pa_cons pe (pa_cons pT' pa_nil hs2) hs) (by decide) (by decide) hs hpl, fun F H E σ f Q ok q => qe F H E σ f _ ok ?_⟩
  unfold mIsi at q
  cases hm : m E with
  | exc c E1 => rw [hm] at q; exact fun F' H' f' s o => q F' H' f' s o
  | bad => rw [hm] at q; exact q
  | ok o E1 =>
    rw [hm, bind_ok] at q
    intro F1 H1 v f1 s1 o1
    have iv := o1.isHead
    obtain ⟨f2, o2, s2⟩ := o1.tl'
    cases ht : tyName o.toD with
    | none => unfold isTy at q; rw [ht] at q; exact q.elim
    | some t =>
      unfold isTy at q
      rw [ht] at q
      obtain ⟨h1, h2⟩ := tyX_ok iv ht
      exact ⟨v, .ty T', .type t, .type T', _, rfl, .ty T', h1, kit_ty (kit_tab t h2 T' hT), q F1 H1 _ f2 (s1.trans s2) (o2.bl _)⟩

/-! ### methods of a text -/
def O.str? : O → Option (List Nat)
  | .fz (.str s) => some s
  | _ => none
theorem str?_eq {o : O} {s : List Nat} (h : o.str? = some s) : o = .fz (.str s) := by
  unfold O.str? at h
  split at h
  · cases h; rfl
  · cases h
def mStrM (g : List Nat → List O → Option O) (mo : M O) (ms : M (List O)) : M O := fun E => (mo E).bind fun o E1 => match o.str? with
  | some s => (ms E1).bind fun os E2 => match g s os with
    | some r => .ok r E2
    | none => .bad
  | none => .bad
structure TPrm (X : Cx) (ad : Nat → Addr) (r : V → List V → Hp → VK → Prop) (g : List Nat → List O → Option O) : Prop where
  ok : ∀ F H s os vs E σ f Q o, Ok X.K ad F H (os.map some ++ E) (vs.map some ++ σ) f → vs.length = os.length → g s os = some o →
    (∀ F' H' v f', Step F H f F' H' f' → Ok X.K ad F' H' (some o :: E) (some v :: σ) f' → Q v H') → r (.str (mk s)) vs H Q
theorem s_strM {o e : Expr} {es : List Expr} {mo : M O} {ms : M (List O)} {name : Str} {id : String} {apos cpos : Pos} {r : V → List V → Hp → VK → Prop} {g : List Nat → List O → Option O} (slot : Slot "str" name id) (hty : typeOf (.builtin id) = pure (.type "method_descriptor")) (hm : MtR X id r) (p : TPrm X ad r g) (ho : SE X ad W o mo) (ha : SA X ad W (e :: es) ms)
    (hbase : attributeBase o name X.env (eval o X.env) = eval o X.env := by rfl)
    (hfew : ((backTo cpos (starEach (e :: es) X.env)).all (fun x => !x.1) && (backToKw cpos (keywordEach [] X.env)).all (fun x => x.1.isSome)
      && decide ((e :: es).length + ([] : List Keyword).length + (if ([] : List Keyword).isEmpty then 0 else 1) < 30)) = true := by rfl)
    (hline : (apos.endLine == cpos.line) = true := by rfl) (hs : starEach (e :: es) X.env = (false, eval e X.env) :: starEach es X.env := by rfl) (hplain : (backTo cpos (starEach es X.env)).any (·.1) = false := by rfl) :
    SE X ad W (.Call (.Attribute o name apos) (e :: es) [] cpos) (mStrM g mo ms) := by
  obtain ⟨to, po, qo⟩ := ho.ex
  obtain ⟨ta, pa, qa⟩ := ha.ex
  refine ⟨_, pe_bm PySem.F.plainAttrs_str slot hty hm po pa hbase hfew hline hs hplain, fun F H E σ f Q ok q => qo F H E σ f _ ok ?_⟩
  unfold mStrM at q
  cases hm : mo E with
  | exc c E1 => rw [hm] at q; exact fun F' H' f' s o => q F' H' f' s o
  | bad => rw [hm] at q; exact q
  | ok o E1 =>
    rw [hm, bind_ok] at q
    intro F1 H1 v f1 s1 o1
    cases hs : o.str? with
    | none => rw [hs] at q; exact q.elim
    | some s =>
      rw [hs] at q
      have eo := str?_eq hs
      subst eo
      have iv := o1.head
      cases iv
      obtain ⟨f2, o2, s2⟩ := o1.tl'
      refine ⟨rfl, qa F1 H1 E1 σ f2 _ o2 ?_⟩
      cases hms : ms E1 with
      | exc c E2 => simp only [hms] at q; exact fun F' H' f' s o => q F' H' f' (s1.trans (s2.trans s)) o
      | bad => simp only [hms] at q; exact q
      | ok os E2 =>
        simp only [hms, bind_ok] at q
        intro F3 H3 vs f3 s3 l3 o3
        cases hg : g s os with
        | none => simp only [hg] at q; exact q.elim
        | some r =>
          simp only [hg] at q
          exact p.ok F3 H3 s os vs E2 σ f3 Q r o3 l3 hg fun F' H' v f' st o' => q F' H' v f' (s1.trans (s2.trans (s3.trans st))) o'
/-- flat results of arguments that are read -/
theorem tprm_rd {r : V → List V → Hp → VK → Prop} {g : List Nat → List D → Option D} (h : ∀ H s ds vs d Q, IsL X.K ad H ds vs → g s ds = some d → (∀ v, (∀ F, Is X.K ad F d v) → Q v H) → r (.str (mk s)) vs H Q) : TPrm X ad r (fun s os => (g s (O.toDs os)).map O.fz) := by
  refine ⟨fun F H s os vs E σ f Q o ok hl hg q => ?_⟩
  cases hd : g s (O.toDs os) with
  | none => rw [hd] at hg; cases hg
  | some d =>
    rw [hd] at hg
    cases hg
    obtain ⟨f2, o2, s2⟩ := ok.rest hl
    exact h H s _ vs d Q (ok.isL hl) hd fun v hv => q F H v f2 s2 (o2.dat (hv F))
def itemsOf : D → Option (List D)
  | .lst ds => some ds
  | .tup ds => some ds
  | _ => none
def dJoin (s : List Nat) : List D → Option D
  | [d] => match (itemsOf d).bind strsOf with
    | some ys => if ((ys.map mk).map (·.length)).sum + (ys.map mk).length * (mk s).length ≤ 16777216 then some (.str (Txt.join (mk s) (ys.map mk)).cps.toList) else none
    | none => none
  | _ => none
def tJoin : List Nat → List O → Option O := fun s os => (dJoin s (O.toDs os)).map O.fz
theorem k_join : TPrm X ad (fun x xs H Q => ∃ a p, ∃ ys : List PySem.Str, x = .str a ∧ xs = [.ref p] ∧ (SqL X.K H p (ys.map V.str) ∨ SqT X.K H p (ys.map V.str)) ∧
    (ys.map (·.length)).sum + ys.length * a.length ≤ 16777216 ∧ Q (.str (Txt.join a ys)) H) tJoin := tprm_rd fun H s ds vs d Q rl e q => by
  unfold dJoin at e
  split at e
  · next a =>
    cases rl with
    | cons ra rl =>
    cases rl
    split at e
    · next ys hys =>
      split at e
      · next hz =>
        cases e
        cases ra with
        | @lst p ds vs hs r =>
          have hys : strsOf ds = some ys := hys
          exact ⟨mk s, p, ys.map mk, rfl, rfl, .inl (by rw [← strs_ok r hys]; exact .inl (.inl hs)), hz, q _ fun F => is_strX _⟩
        | @tup p ds vs hs r =>
          have hys : strsOf ds = some ys := hys
          exact ⟨mk s, p, ys.map mk, rfl, rfl, .inr (by rw [← strs_ok r hys]; exact hs), hz, q _ fun F => is_strX _⟩
        | _ => cases hys
      · cases e
    · cases e
  · cases e
def dZfill (s : List Nat) : List D → Option D
  | [.int i] => if PadOk i = true then some (.str (Txt.zfill (mk s) i).cps.toList) else none
  | _ => none
def tZfill : List Nat → List O → Option O := fun s os => (dZfill s (O.toDs os)).map O.fz
theorem k_zfill : TPrm X ad (fun x xs H Q => ∃ (a : PySem.Str) (i : Int), x = .str a ∧ xs = [.int i] ∧ PadOk i = true ∧ Q (.str (Txt.zfill a i)) H) tZfill := tprm_rd fun H s ds vs d Q rl e q => by
  unfold dZfill at e
  split at e
  · next i =>
    split at e
    · next h =>
      cases e
      cases rl with
      | cons ra r => cases r; cases ra; exact ⟨mk s, i, rfl, rfl, h, q _ fun F => is_strX _⟩
    · cases e
  · cases e
def dFind3 (s : List Nat) : List D → Option D
  | [.str t, .int i] => some (.int (Txt.find3 (mk s) (mk t) i))
  | _ => none
def tFind3 : List Nat → List O → Option O := fun s os => (dFind3 s (O.toDs os)).map O.fz
theorem k_find3 : TPrm X ad (fun x xs H Q => ∃ (a b : PySem.Str) (i : Int), x = .str a ∧ xs = [.str b, .int i] ∧ Q (.int (Txt.find3 a b i)) H) tFind3 := tprm_rd fun H s ds vs d Q rl e q => by
  unfold dFind3 at e
  split at e
  · next t i =>
    cases e
    cases rl with
    | cons ra r => cases r with
      | cons rb r => cases r; cases ra; cases rb; exact ⟨mk s, mk t, i, rfl, rfl, q _ fun F => .int _⟩
  · cases e
/-- a global name that holds a constant -/
theorem s_glob {x : Str} {v : V} {u : Value} {pos : Pos} {d : D} (hm : X.mg x = some u) (r : RelV v u) (hd : ∀ F, Is X.K ad F d v) (hg : Gl X x := by rfl) (hdb : (x == ("__debug__" : Str)) = false := by decide) : SE X ad W (.Name x pos) (mLit d) := lit_of (pe_glob hg hm r hdb) hd
end

/-! ### name += e, raise -/
def mAug (g : Int → Int → Int) (i : Nat) (m : M O) : Ms := fun E => match E[i]? with
  | some (some (.fz (.int a))) => (m E).fl fun o E1 => match o.int? with
    | some b => .next (E1.set i (some (.fz (.int (g a b)))))
    | none => .bad
  | _ => .bad
def mRaise (c : Nat) : Ms := fun E => .exc c E
section
variable {X : Cx} {ad : Nat → Addr} {W : WX} {io : List Nat} {e : Expr} {m : M O} {pos : Pos}
theorem z_aug {x : Str} {p : Pos} {op : Operator} {g : Int → Int → Int} (i : Nat) (hN : X.N.Nodup) (hi : X.N[i]? = some x) (hx : Loc X.env.scope x) (ho : PIp X op (ipI g)) (he : SE X ad W e m) (h0 : ∀ j ∈ io, j ≠ i := by decide)
    (hf : X.fn x = true ∨ X.env.scope.names.lookup x = some .local := by first | exact .inl rfl | exact .inr rfl) : SS X ad W io (.AugAssign (.Name x p) op e pos) (mAug g i m) := by
  obtain ⟨te, pe, qe⟩ := he.ex
  refine ⟨_, ps_aug hN hi hx pe ho hf, fun F H E σ f D ok q => ?_⟩
  unfold mAug at q
  split at q
  case h_2 => exact q.elim
  next a h0' =>
  obtain ⟨v, _, _, hv, hr, _⟩ := ok.rep.at h0'
  refine ⟨v, hv, qe F H E σ f _ ok ?_⟩
  cases hr with
  | fz hr =>
  cases hr
  cases hm : m E with
  | exc c E1 => rw [hm] at q; exact fun F' H' f' s o => q F' H' σ f' s o
  | bad => rw [hm] at q; exact q
  | ok o E1 =>
    rw [hm, fl_ok] at q
    intro F1 H1 w f1 s1 o1
    cases hi2 : o.int? with
    | none => rw [hi2] at q; exact q.elim
    | some b =>
      rw [hi2] at q
      have eo := int?_eq hi2
      subst eo
      have iw := o1.head
      cases iw
      obtain ⟨f2, o2, s2⟩ := o1.tl'
      refine ⟨a, b, rfl, rfl, ?_⟩
      obtain ⟨f3, o3, m3⟩ := (o2.dat (d := .int (g a b)) (.int _)).assign i
      refine q F1 H1 _ f3 (s1.trans (s2.trans (Step.perm m3))) o3 (fun j hj => ?_)
      rw [List.getElem?_set_ne (Ne.symm (h0 j hj))]
theorem z_raise {C : Addr} (c : Nat) (hC : ad c = C) (hc : X.calm = true) (tk : Takes X W) (he : PMk X e (fun _ H Q => Q (.ref C) none H)) : SS X ad W io (.Raise (some e) none pos) (mRaise c) := by
  refine ⟨_, ps_raise hc tk he, fun F H E σ f D ok q => ?_⟩
  subst hC
  exact q F H σ f (Step.refl _ _ _) ok
end
end Mn

set_option Elab.async false
set_option linter.all false
set_option maxRecDepth 100000
set_option maxHeartbeats 4000000
namespace Mn
open PySem PySem.Spec PyProof.Rows L2

/-! ### sorted -/
def leI (a b : Int) : Bool := decide (a ≤ b)
def srtI (ns : List Int) : List Int := ns.mergeSort leI
theorem srtI_eq {ns ns' : List Int} (p : ns'.Perm ns) (s : ns'.Pairwise (· ≤ ·)) : ns' = srtI ns := by
  have h2 : (srtI ns).Pairwise (· ≤ ·) := (List.pairwise_mergeSort (le := leI) (fun a b c h1 h2 => by simp [leI] at *; omega) (fun a b => by simp [leI]; omega) ns).imp fun {a b} h => by simpa [leI] using h
  exact List.Perm.eq_of_pairwise (le := fun a b => a ≤ b) (fun a b _ _ h1 h2 => Int.le_antisymm h1 h2) s h2 (p.trans (List.mergeSort_perm ns leI).symm)
def ltS : List Nat → List Nat → Bool
  | [], [] => false
  | [], _ :: _ => true
  | _ :: _, [] => false
  | a :: r, b :: t => decide (a < b) || (a == b && ltS r t)
theorem ltS_cps : ∀ a b : List Nat, ltCps a b = ltS a b
  | [], [] => rfl
  | [], _ :: _ => rfl
  | _ :: _, [] => rfl
  | a :: r, b :: t => by unfold ltCps ltS; rw [ltS_cps r t]
theorem ltS_lt : ∀ a b : List Nat, decide (a < b) = ltS a b
  | [], [] => rfl
  | [], b :: t => by simp [ltS]
  | a :: r, [] => by simp [ltS]
  | a :: r, b :: t => by
    unfold ltS
    rw [← ltS_lt r t, Bool.eq_iff_iff]
    simp [List.cons_lt_cons_iff]
def leS (a b : List Nat) : Bool := !ltS b a
theorem leS_iff (a b : List Nat) : leS a b = true ↔ a ≤ b := by
  unfold leS
  rw [← ltS_lt]
  simp [List.not_lt]
def srtS (ns : List (List Nat)) : List (List Nat) := ns.mergeSort leS
theorem srtS_pair (ns : List (List Nat)) : (srtS ns).Pairwise (fun a b => leS a b = true) :=
  List.pairwise_mergeSort (le := leS) (fun a b c h1 h2 => by rw [leS_iff] at *; exact List.le_trans h1 h2) (fun a b => by
    rw [Bool.or_eq_true, leS_iff, leS_iff]; exact List.le_total a b) ns
theorem rising_pair : ∀ (p : PySem.Str) (l : List PySem.Str), risingS p l = true → (p :: l).Pairwise (fun a b => leS a.cps.toList b.cps.toList = true)
  | p, [], _ => by simp
  | p, x :: r, h => by
    have h : (!ltCps x.cps.toList p.cps.toList && risingS x r) = true := h
    rw [Bool.and_eq_true] at h
    have ih := rising_pair x r h.2
    have h1 : leS p.cps.toList x.cps.toList = true := by unfold leS; rw [← ltS_cps]; exact h.1
    refine List.pairwise_cons.mpr ⟨fun y hy => ?_, ih⟩
    rcases List.mem_cons.mp hy with rfl | hy
    · exact h1
    · have h2 := (List.pairwise_cons.mp ih).1 y hy
      rw [leS_iff] at *
      exact List.le_trans h1 h2
theorem sorted_pair : ∀ {l : List PySem.Str}, sortedS l = true → l.Pairwise (fun a b => leS a.cps.toList b.cps.toList = true)
  | [], _ => by simp
  | x :: r, h => rising_pair x r h
theorem srtS_eq {ns : List (List Nat)} {ys : List PySem.Str} (p : ys.Perm (ns.map mk)) (s : sortedS ys = true) : ys = (srtS ns).map mk := by
  have p1 : (ys.map fun y => y.cps.toList).Perm ns := by
    have := p.map fun y : PySem.Str => y.cps.toList
    rw [List.map_map] at this
    have e : ((fun y : PySem.Str => y.cps.toList) ∘ mk) = id := by funext x; simp [mk]
    rwa [e, List.map_id] at this
  have s1 : (ys.map fun y => y.cps.toList).Pairwise (fun a b => leS a b = true) := List.pairwise_map.mpr (sorted_pair s)
  have e := List.Perm.eq_of_pairwise (le := fun a b => leS a b = true) (fun a b _ _ h1 h2 => by
    rw [leS_iff] at h1 h2; exact List.le_antisymm h1 h2) s1 (srtS_pair ns) (p1.trans (List.mergeSort_perm ns leS).symm)
  rw [← e, List.map_map]
  have e : (mk ∘ fun y : PySem.Str => y.cps.toList) = id := by funext x; rfl
  rw [e, List.map_id]
def keysStr : List (KK × D) → Option (List (List Nat))
  | [] => some []
  | (.inr s, _) :: r => (keysStr r).map (s :: ·)
  | _ => none
/-- a list of ints (any number), of texts, a dict of texts (fewer than 64) -/
def oSorted : D → Option O
  | .lst ds => match intsOf ds with
    | some ns => some (.lst ((srtI ns).map fun n => .fz (.int n)))
    | none => match strsOf ds with
      | some ss => if ss.length < 64 then some (.lst ((srtS ss).map fun n => .fz (.str n))) else none
      | none => none
  | .dct kvs => match keysStr kvs with
    | some ss => if ss.length < 64 then some (.lst ((srtS ss).map fun n => .fz (.str n))) else none
    | none => none
  | _ => none
def pSorted : List O → Option O := fun os => match os with
  | [a] => oSorted a.toD
  | _ => none
def rSort3 (K : PySem.W.Frag) : List V → Hp → VK → Prop := fun xs H Q => (rSortedI K xs H Q ∨ rSortedS K xs H Q) ∨ ∃ (a : Addr) (kvs : List (Key × V)) (ks : List PySem.Str), xs = [.ref a] ∧ Rd H a (.dK kvs) ∧ kvs.map (·.1) = ks.map Sum.inr ∧ ks.length < 64 ∧
    ∀ ys p, ys.Perm ks → sortedS ys = true → H p = none → Q (.ref p) (upd H p (.lst (ys.map V.str)))
section
variable {X : Cx} {ad : Nat → Addr} {W : WX}
theorem c_sorted (hc : X.calm = true) : CallR X (.builtin "sorted") (rSort3 X.K) := (cr_sortedI.or cr_sortedS).or (call_sortedD hc)
theorem keysStr_ok {K : PySem.W.Frag} {H : Hp} : ∀ {kvs : List (KK × D)} {ws : List (Key × V)} {ss : List (List Nat)}, IsK K ad H kvs ws → keysStr kvs = some ss → ws.map (·.1) = (ss.map mk).map Sum.inr
  | _, _, _, .nil, e => by cases e; rfl
  | _, _, ss, .cons (k := k) (ds := kvs) a r, e => by
    cases k with
    | inl i => cases e
    | inr s =>
      have e : (keysStr kvs).map (s :: ·) = some ss := e
      cases h : keysStr kvs with
      | none => rw [h] at e; cases e
      | some m => rw [h] at e; cases e; rw [List.map_cons, keysStr_ok r h]; rfl
theorem IsL.strs {K : PySem.W.Frag} {H : Hp} : ∀ ns : List (List Nat), IsL K ad H (ns.map D.str) ((ns.map mk).map V.str)
  | [] => .nil
  | n :: ns => .cons (.str n) (IsL.strs ns)
theorem lay_lst {K : PySem.W.Frag} {F H : Hp} {ds : List D} {vs : List V} {E : En} {σ : L2.St} {f : List Addr} {p : Addr} (ok : Ok K ad F H E σ f) (r : IsL K ad F ds vs) (n : H p = none) :
    Step F H f F (upd H p (.lst vs)) (p :: f) ∧ Ok K ad F (upd H p (.lst vs)) (some (.lst (ds.map O.fz)) :: E) (some (.ref p) :: σ) (p :: f) := by
  have o6 : Ok K ad F H ((ds.map O.fz).map some ++ E) (vs.map some ++ σ) ([] ++ f) :=
    ⟨ok.sub, RepE.append (RepE.ofL (RepL.ofIs r)) ok.rep, by simpa using ok.nd, fun x hx => ok.nf x (by simpa using hx)⟩
  exact o6.newLst (P := []) (PS := []) (by simp [r.length]) n
theorem k_sorted : Prm X ad (rSort3 X.K) pSorted := prm_f fun F H d x o E σ f Q ok r e q => by
  have goS : ∀ {ss : List (List Nat)} {ys : List PySem.Str} {p : Addr}, ys.Perm (ss.map mk) → sortedS ys = true → H p = none → o = .lst ((srtS ss).map fun n => .fz (.str n)) → Q (.ref p) (upd H p (.lst (ys.map V.str))) := fun {ss ys p} h1 h2 n eo => by
    rw [srtS_eq h1 h2]
    obtain ⟨s2, o2⟩ := lay_lst ok (IsL.strs (srtS ss)) n
    rw [show ((srtS ss).map D.str).map O.fz = (srtS ss).map (fun n => O.fz (D.str n)) by simp [List.map_map]] at o2
    subst eo
    exact q _ _ _ _ s2 o2
  cases r with
  | @lst a ds vs hs r =>
    have e : (match intsOf ds with
      | some ns => some (O.lst ((srtI ns).map fun n => .fz (.int n)))
      | none => match strsOf ds with
        | some ss => if ss.length < 64 then some (O.lst ((srtS ss).map fun n => .fz (.str n))) else none
        | none => none) = some o := e
    split at e
    · next ns hns =>
      cases e
      refine .inl (.inl ⟨a, ns, rfl, .inl (.inl (by rw [← ints_ok r hns]; exact ok.sub _ _ hs)), fun ns' p h1 h2 n => ?_⟩)
      rw [srtI_eq h1 h2]
      obtain ⟨s2, o2⟩ := lay_lst ok (IsL.ints (srtI ns)) n
      rw [List.map_map] at o2
      exact q _ _ _ _ s2 o2
    · split at e
      · next ss hss =>
        split at e
        · next h64 =>
          cases e
          exact .inl (.inr ⟨a, ss.map mk, rfl, .inl (.inl (by rw [← strs_ok r hss]; exact ok.sub _ _ hs)), by rw [List.length_map]; exact h64, fun ys p h1 h2 n => goS h1 h2 n rfl⟩)
        · cases e
      · cases e
  | @dct a kvs ws hs r =>
    have e : (match keysStr kvs with
      | some ss => if ss.length < 64 then some (O.lst ((srtS ss).map fun n => .fz (.str n))) else none
      | none => none) = some o := e
    split at e
    · next ss hss =>
      split at e
      · next h64 =>
        cases e
        exact .inr ⟨a, ws, ss.map mk, rfl, .inl (ok.sub _ _ hs), keysStr_ok r hss, by rw [List.length_map]; exact h64, fun ys p h1 h2 n => goS h1 h2 n rfl⟩
      · cases e
    · cases e
  | _ => cases e
end

/-! ### d.get(k, x), d the i-th name's own -/
def isDct : O → Bool
  | .dct _ => true
  | .fz (.dct _) => true
  | _ => false
def mGet (i : Nat) (mk md : M O) : M O := fun E => match E[i]? with
  | some (some o0) => if isDct o0 then (mk E).bind fun k E1 => (md E1).bind fun x E2 => match E2[i]? with
    | some (some o) => match isDct o, kOf k.toD with
      | true, some _ => match atO o k.toD with
        | some (.fz d) => .ok (.fz d) E2
        | some _ => .bad
        | none => .ok x E2
      | _, _ => .bad
    | _ => .bad
    else .bad
  | _ => .bad
section
variable {X : Cx} {ad : Nat → Addr} {W : WX} {e f : Expr} {mk md : M O} {apos cpos : Pos}
theorem isD_of {K : PySem.W.Frag} {F H : Hp} {o : O} {v : V} {fp : List Addr} (r : Rep K ad F H o v fp) (sb : Same F H) (h : isDct o = true) : ∃ a, v = .ref a ∧ IsD H a := by
  cases r with
  | fz q =>
    cases q with
    | dct hs r => exact ⟨_, rfl, .inl ⟨_, .inl (sb _ _ hs)⟩⟩
    | _ => cases h
  | lst _ _ => cases h
  | ptp _ _ _ => cases h
  | dct hs n r => exact ⟨_, rfl, .inl ⟨_, .inl hs⟩⟩
theorem look_none : ∀ {kvs : List (KK × O)} {k : KK}, lookO kvs k = none → k ∉ kvs.map (·.1)
  | [], _, _ => by simp
  | (j, x) :: r, k, h => by
    unfold lookO at h
    by_cases e : j = k
    · rw [if_pos e] at h; cases h
    · rw [if_neg e] at h
      simp only [List.map_cons, List.mem_cons, not_or]
      exact ⟨fun z => e z.symm, look_none h⟩
theorem val_none : ∀ {ws : List (Key × V)} {kk : Key}, kk ∉ ws.map (·.1) → valV ws kk = none
  | [], _, _ => rfl
  | (k0, w) :: r, kk, h => by
    simp only [List.map_cons, List.mem_cons, not_or] at h
    rw [valV_neg (by exact fun e => h.1 e.symm)]
    exact val_none h.2
theorem get_none {K : PySem.W.Frag} {F H H0 : Hp} {o : O} {v y : V} {k : D} {kk : KK} {fp : List Addr} (r : Rep K ad F H o v fp) (sb : Same F H) (rk : Is K ad H0 k y) (h : isDct o = true) (hk : kOf k = some kk) (e : atO o k = none) : ∃ a, v = .ref a ∧ DGet H a y none := by
  have ey := tk_kV rk hk
  subst ey
  cases r with
  | fz q =>
    cases q with
    | @dct a kvs ws hs r =>
      have e : (itemD (.dct kvs) k).map O.fz = none := by revert e; cases k <;> exact id
      have e2 : itemD (.dct kvs) k = (kOf k).bind (lookK kvs) := by cases k <;> rfl
      rw [e2, hk] at e
      have e : lookK kvs kk = none := by simpa using e
      refine ⟨a, rfl, ?_⟩
      rw [← (lookK_ok (k := kk) r).1 e]
      exact DGet.k (sb _ _ hs)
    | _ => cases h
  | lst _ _ => cases h
  | ptp _ _ _ => cases h
  | @dct a kvs ws fo hs n r =>
    have e : (kOf k).bind (lookO kvs) = none := by revert e; cases k <;> exact id
    rw [hk] at e
    have e : lookO kvs kk = none := e
    refine ⟨a, rfl, ?_⟩
    have hv : valV ws (tk kk) = none := val_none fun hm => by
      rw [r.toL.2] at hm
      obtain ⟨p, hp, e2⟩ := List.mem_map.mp hm
      exact look_none e (tk_inj e2 ▸ List.mem_map_of_mem hp)
    rw [← hv]
    exact DGet.k hs
theorem get_some {K : PySem.W.Frag} {F H H0 : Hp} {o : O} {v y : V} {k d : D} {fp : List Addr} (r : Rep K ad F H o v fp) (sb : Same F H) (rk : Is K ad H0 k y) (h : isDct o = true) (e : atO o k = some (.fz d)) : ∃ a w, v = .ref a ∧ DGet H a y (some w) ∧ Is K ad F d w := by
  cases r with
  | fz q =>
    cases q with
    | @dct a kvs ws hs r =>
      have e : (itemD (.dct kvs) k).map O.fz = some (.fz d) := by revert e; cases k <;> exact id
      have e2 : itemD (.dct kvs) k = (kOf k).bind (lookK kvs) := by cases k <;> rfl
      rw [e2] at e
      cases hk : kOf k with
      | none => rw [hk] at e; cases e
      | some kk =>
        rw [hk] at e
        cases hl : lookK kvs kk with
        | none => simp [hl] at e
        | some d' =>
          simp [hl] at e
          subst e
          obtain ⟨w, h1, h2⟩ := (lookK_ok (k := kk) r).2 d' hl
          refine ⟨a, w, rfl, ?_, h2⟩
          rw [tk_kV rk hk, ← h1]
          exact DGet.k (sb _ _ hs)
    | _ => cases h
  | lst _ _ => cases h
  | ptp _ _ _ => cases h
  | @dct a kvs ws fo hs n r =>
    have e : (kOf k).bind (lookO kvs) = some (.fz d) := by revert e; cases k <;> exact id
    cases hk : kOf k with
    | none => rw [hk] at e; cases e
    | some kk =>
      rw [hk] at e
      have e : lookO kvs kk = some (.fz d) := e
      obtain ⟨j, e1, e2, e3⟩ := look_idx e
      obtain ⟨rl, keys⟩ := r.toL
      obtain ⟨w, fx, h1, h2, fr, pm, h3, h4⟩ := rl.atR (j := j) (o := .fz d) e1
      have kj : ∀ i, (ws.map (·.1))[i]? = ((kvs.map (·.1))[i]?).map tk := fun i => by
        rw [keys]
        rw [show kvs.map (fun p => tk p.1) = (kvs.map (·.1)).map tk by simp [List.map_map]]
        exact List.getElem?_map
      have hv : valV ws (tk kk) = some w := val_idx h1 (by rw [kj, e2]; rfl) fun i hi z => by
        rw [kj] at z
        obtain ⟨k2, z1, z2⟩ := Option.map_eq_some_iff.mp z
        exact e3 i hi (z1.trans (congrArg some (tk_inj z2)))
      cases h2 with
      | fz h2 =>
        refine ⟨a, w, rfl, ?_, h2⟩
        rw [tk_kV rk hk, ← hv]
        exact DGet.k hs
theorem s_get {x : Str} {px : Pos} (i : Nat) (hu : X.A.units + 65 < cLine) (he : SE X ad W e mk) (hf : SE X ad W f md) (hN : X.N[i]? = some x) (hv : Vis X.env.scope x) (hd : (x == ("__debug__" : Str)) = false := by decide) (hcd : (x == ("__classdict__" : Str)) = false := by decide)
    (m : M2 X (.Name x px) "get" apos e f cpos := by exact ⟨rfl, rfl, rfl, rfl⟩) : SE X ad W (.Call (.Attribute (.Name x px) "get" apos) [e, f] [] cpos) (mGet i mk md) := by
  obtain ⟨te, pe, qe⟩ := he.ex
  obtain ⟨tf, pf, qf⟩ := hf.run
  refine ⟨_, pe_dget2 (by omega) (pe_var hN hv hd hcd) pe pf m, fun F H E σ f Q ok q => ?_⟩
  unfold mGet at q
  split at q
  case h_2 => exact q.elim
  next o0 h0 =>
  split at q
  case isFalse => exact q.elim
  next hd0 =>
  obtain ⟨v, _, _, hvv, hr, _⟩ := ok.rep.at h0
  obtain ⟨a, rfl, hD⟩ := isD_of hr ok.sub hd0
  refine ⟨_, hvv, a, rfl, hD, qe F H E σ f _ ok ?_⟩
  cases hm : mk E with
  | bad => rw [hm] at q; exact q
  | exc c E1 => rw [hm] at q; exact fun F' H' f' s o => q F' H' f' s o
  | ok k E1 =>
    rw [hm, bind_ok] at q
    intro F1 H1 y f1 s1 o1
    refine qf [some k] [some y] F1 H1 E1 σ f1 _ rfl o1 ?_
    cases hm2 : md E1 with
    | bad => rw [hm2] at q; exact q
    | exc c E2 => rw [hm2] at q; exact fun F' H' f' s o => q F' H' f' (s1.trans s) o
    | ok x E2 =>
      rw [hm2, bind_ok] at q
      intro F2 H2 z f2 s2 o2
      have o2 : Ok X.K ad F2 H2 (some k :: some x :: E2) (some y :: some z :: σ) f2 := o2
      have iy := o2.isHead
      obtain ⟨g1, o3, s3⟩ := o2.tl'
      obtain ⟨g2, o4, s4⟩ := o3.tl'
      split at q
      case h_2 => exact q.elim
      next o ho =>
      obtain ⟨v', fa, fb, hv', rv, _⟩ := o4.rep.at ho
      have ev : v' = .ref a := by rw [hvv] at hv'; simpa using hv'.symm
      subst ev
      split at q
      case h_2 => exact q.elim
      next kk hdo hkk =>
      split at q
      · next d hat =>
        obtain ⟨a', w, e1, g, iw⟩ := get_some rv o4.sub iy hdo hat
        cases e1
        exact ⟨_, g, q F2 H2 w g2 (s1.trans (s2.trans (s3.trans s4))) (o4.dat iw)⟩
      · exact q.elim
      · next hat =>
        obtain ⟨a', e1, g⟩ := get_none rv o4.sub iy hdo hkk hat
        cases e1
        exact ⟨_, g, q F2 H2 z g1 (s1.trans (s2.trans s3)) o3⟩
end
end Mn

set_option Elab.async false
set_option linter.all false
set_option maxRecDepth 100000
set_option maxHeartbeats 4000000
namespace Mn
open PySem PySem.Spec PyProof.Rows L2

/-! ### {k: v for ..} -/
def dIter (own : List Nat) (t : Mt) (c : M Bool) (mk m : M O) : List D → List (KK × O) → En → R (List (KK × O))
  | [], acc, E => .ok acc (wipeE E own)
  | d :: ds, acc, E => (t (.fz d) E).only fun _ E1 => (c E1).only fun b E2 => if b then (mk E2).only fun k E3 => (m E3).only fun o E4 => match kOf k.toD with
      | some kk => if acc.length < sizeLine then dIter own t c mk m ds (putO acc kk o) (wipeE E4 own) else .bad
      | none => .bad
    else dIter own t c mk m ds acc (wipeE E2 own)
def mDComp (own : List Nat) (t : Mt) (mi : M (List D)) (c : M Bool) (mk m : M O) : M O := fun E => (mi E).bind fun ds E1 => (dIter own t c mk m ds [] (wipeE E1 own)).only fun os E2 => .ok (.dct os) E2
section
variable {X : Cx} {ad : Nat → Addr} {W : WX} {elt kx tg iter : Expr} {ifs : List Expr} {scope : Scope} {own : List (Str × Nat)} {pos : Pos} {sl : List Nat} {t : Mt} {mi : M (List D)} {c : M Bool} {mk m : M O}
theorem dcomp_core {wi : TI} {g : TG} {tt : TT} {tk te : TE} {vs : List Nat} (hsl : ∀ i ∈ sl, i ∈ vs)
    (qi : ∀ F H E σ f R, Ok X.K ad F H E σ f →
    (match mi E with
      | .ok ds E' => ∀ F' H' f' J, Step F H f F' H' f' → Ok X.K ad F' H' E' σ f' → Wk X.K ad J ds F' → R J H'
      | .exc c E' => ∀ F' H' f', Step F H f F' H' f' → Ok X.K ad F' H' E' σ f' → W (.ref (ad c)) none σ H'
      | .bad => False) → wi σ H R)
    (qg : ∀ F H E σ f o v Q, Ok X.K ad F H (some o :: E) (some v :: σ) f →
    (match t o E with
      | .ok _ E' => ∀ F' H' σ' f', Step F H f F' H' f' → Ok X.K ad F' H' E' σ' f' → Df sl σ σ' → Q σ' H'
      | .exc c E' => ∀ F' H' f', Step F H f F' H' f' → Ok X.K ad F' H' E' σ f' → W0 (.ref (ad c)) none σ H'
      | .bad => False) → g v σ H Q)
    (qt : ∀ F H E σ f Q, Ok X.K ad F H E σ f → AftT X.K ad W0 F H f σ (c E) Q → tt σ H Q)
    (qk : ∀ F H E σ f Q, Ok X.K ad F H E σ f → Aft X.K ad W0 [] [] F H f σ (mk E) Q → tk σ H Q)
    (qe : ∀ P PS F H E σ f Q, P.length = PS.length → Ok X.K ad F H (P ++ E) (PS ++ σ) f → Aft X.K ad W0 P PS F H f σ (m E) Q → te σ H Q) :
    ∀ F H E σ f Q, Ok X.K ad F H E σ f → Aft X.K ad W [] [] F H f σ (mDComp vs t mi c mk m E) Q → tDc wi g tt tk te vs σ H Q := by
  intro F H E σ f Q ok z
  refine qi F H E σ f _ ok ?_
  unfold mDComp at z
  cases hm : mi E with
  | exc c E1 => rw [hm] at z; exact fun F' H' f' s o => z F' H' f' s o
  | bad => rw [hm] at z; exact z
  | ok ds E1 =>
    rw [hm, bind_ok] at z
    intro F1 H1 f1 J s1 o1 wk D nD
    obtain ⟨fw, ow, mw⟩ := o1.wipeE vs
    have ow' : Ok X.K ad F1 H1 (Mn.wipeE E1 vs) (L2.wipe σ vs) fw := ow.wipeS (wipe_length _ _) wipe_out
    obtain ⟨sN, oN⟩ := Ok.newDct ow' nD
    -- what is wanted of the rest
    let post : Hp → Hp → List Addr → R (List (KK × O)) → Prop := fun F' H' f' r => match r with
      | .ok os E'' => ∀ F'' H'' f'', Step F' H' f' F'' H'' f'' → Ok X.K ad F'' H'' (some (.dct os) :: E'') (some (.ref D) :: L2.wipe σ vs) f'' → Q (.ref D) H''
      | _ => False
    have fin : ∀ F' H' f' os E'', Step F1 (upd H1 D (.dK [])) (D :: fw) F' H' f' → Ok X.K ad F' H' (some (.dct os) :: Mn.wipeE E'' vs) (some (.ref D) :: L2.wipe σ vs) f' → Ok X.K ad F' H' (some (.dct os) :: Mn.wipeE E'' vs) (some (.ref D) :: σ) f' := fun F' H' f' os E'' s o => by
      refine ⟨o.sub, o.rep.swapS (by simp [wipe_length]) fun j x e => ?_, o.nd, o.nf⟩
      cases j with
      | zero => rfl
      | succ j =>
        have := wipeE_none (E := E'') (vs := vs) (j := j) (by simpa using e)
        simpa using (wipe_out (σ := σ) j this).symm
    have p0 : post F1 (upd H1 D (.dK [])) (D :: fw) (dIter vs t c mk m ds [] (Mn.wipeE E1 vs)) := by
      show (match dIter vs t c mk m ds [] (Mn.wipeE E1 vs) with
        | .ok os E'' => ∀ F'' H'' f'', Step F1 (upd H1 D (.dK [])) (D :: fw) F'' H'' f'' → Ok X.K ad F'' H'' (some (.dct os) :: E'') (some (.ref D) :: L2.wipe σ vs) f'' → Q (.ref D) H''
        | _ => False)
      cases hc : dIter vs t c mk m ds [] (Mn.wipeE E1 vs) with
      | exc c E2 => rw [hc] at z; exact z
      | bad => rw [hc] at z; exact z
      | ok os E2 =>
        rw [hc, only_ok] at z
        intro F'' H'' f'' s o
        -- its names of its own are none
        have hw : ∃ E3, E2 = Mn.wipeE E3 vs := by
          have gen : ∀ (ds : List Mn.D) (acc : List (KK × O)) (E0 : En) (os : List (KK × O)) (E2 : En), dIter vs t c mk m ds acc E0 = .ok os E2 → ∃ E3, E2 = Mn.wipeE E3 vs := by
            intro ds
            induction ds with
            | nil => intro acc E0 os E2 h; unfold dIter at h; cases h; exact ⟨E0, rfl⟩
            | cons d ds ih =>
              intro acc E0 os E2 h
              unfold dIter at h
              cases h1 : t (.fz d) E0 with
              | exc _ _ => rw [h1] at h; cases h
              | bad => rw [h1] at h; cases h
              | ok u Ea =>
                rw [h1, only_ok] at h
                cases h2 : c Ea with
                | exc _ _ => rw [h2] at h; cases h
                | bad => rw [h2] at h; cases h
                | ok b Eb =>
                  rw [h2, only_ok] at h
                  cases b with
                  | false => exact ih _ _ _ _ h
                  | true =>
                    simp only [if_true] at h
                    cases h4 : mk Eb with
                    | exc _ _ => rw [h4] at h; cases h
                    | bad => rw [h4] at h; cases h
                    | ok kk Ek =>
                      rw [h4, only_ok] at h
                      cases h3 : m Ek with
                      | exc _ _ => rw [h3] at h; cases h
                      | bad => rw [h3] at h; cases h
                      | ok o Ec =>
                        rw [h3, only_ok] at h
                        split at h
                        · split at h
                          · exact ih _ _ _ _ h
                          · cases h
                        · cases h
          exact gen _ _ _ _ _ hc
        obtain ⟨E3, rfl⟩ := hw
        exact z F'' H'' (.ref D) f'' (s1.trans ((Step.perm mw).trans (sN.trans s))) (fin F'' H'' f'' os E3 s o)
    refine ⟨fun i k H' => k = ds.length - i ∧ i ≤ ds.length ∧ ∃ F' E' acc f', Same F1 F' ∧ Ok X.K ad F' H' (some (.dct acc) :: Mn.wipeE E' vs) (some (.ref D) :: L2.wipe σ vs) f' ∧ post F' H' f' (dIter vs t c mk m (ds.drop i) acc (Mn.wipeE E' vs)), ⟨ds.length, by simp, Nat.zero_le _, F1, E1, [], D :: fw, Same.refl _, oN, by simpa using p0⟩, ?_⟩
    rintro i k H' ⟨rfl, hi, F', E', acc, f', sF, ok', z'⟩
    by_cases hlt : i < ds.length
    · refine .inr ⟨wk.go i F' H' hlt sF ok'.sub, fun H2 => i + 1 ≤ ds.length ∧ ∃ F' E' acc f', Same F1 F' ∧ Ok X.K ad F' H2 (some (.dct acc) :: Mn.wipeE E' vs) (some (.ref D) :: L2.wipe σ vs) f' ∧ post F' H2 f' (dIter vs t c mk m (ds.drop (i + 1)) acc (Mn.wipeE E' vs)), fun H2 h => ⟨ds.length - (i + 1), by omega, rfl, h⟩, fun x H3 y => ?_⟩
      obtain ⟨F3, d, hd, s2, h2, sub3, g3, t3, q3⟩ := wk.yld i F' H' x H3 hlt sF ok'.sub y
      have e1 : ds.drop i = d :: ds.drop (i + 1) := by
        rw [List.drop_eq_getElem_cons hlt]
        congr 1
        rw [List.getElem?_eq_getElem hlt] at hd
        exact Option.some.inj hd
      have st3 : Step F' H' f' F3 H3 f' := Step.same s2 h2 g3 t3
      have ok3 : Ok X.K ad F3 H3 (some (.dct acc) :: Mn.wipeE E' vs) (some (.ref D) :: L2.wipe σ vs) f' := ⟨sub3, ok'.rep.mono s2 fun a ha u e => h2 a u e, ok'.nd, fun a ha => by
        obtain ⟨u, e⟩ := ok'.rep.trk a ha
        exact g3 a u e (ok'.nf a ha)⟩
      rw [e1] at z'
      have pstep : ∀ {Fa Ha Fb Hb : Hp} {fa fb : List Addr} {r : R (List (KK × O))}, post Fa Ha fa r → Step Fa Ha fa Fb Hb fb → post Fb Hb fb r := fun {Fa Ha Fb Hb fa fb r} p s => by
        cases r with
        | ok os E'' => exact fun F'' H'' f'' s' o => p F'' H'' f'' (s.trans s') o
        | exc _ _ => exact p
        | bad => exact p
      unfold dIter at z'
      -- the target, beside the new list
      obtain ⟨fa, oa, ma, ka⟩ := Ok.frame' (P := [some (.dct acc)]) (PS := [some (.ref D)]) rfl ok3
      refine qg F3 H3 (Mn.wipeE E' vs) (L2.wipe σ vs) fa (.fz d) x _ (oa.dat q3) ?_
      cases ht : t (.fz d) (Mn.wipeE E' vs) with
      | exc c E2 => rw [ht] at z'; exact z'.elim
      | bad => rw [ht] at z'; exact z'.elim
      | ok u E2 =>
        rw [ht, only_ok] at z'
        intro F4 H4 σ4 f4 s4 o4 d4
        obtain ⟨g4, o4b, s4b⟩ := ka s4 o4
        have ew : L2.wipe σ4 vs = L2.wipe σ vs := (wipe_df d4 hsl).trans wipe_wipe
        refine ⟨ew, ?_⟩
        -- the tests
        obtain ⟨fb, ob, mb, kb⟩ := Ok.frame' (P := [some (.dct acc)]) (PS := [some (.ref D)]) rfl o4b
        refine qt F4 H4 E2 σ4 fb _ ob ?_
        cases hc : c E2 with
        | exc c E2 => rw [hc] at z'; exact z'.elim
        | bad => rw [hc] at z'; exact z'.elim
        | ok b E3 =>
          rw [hc, only_ok] at z'
          intro F5 H5 f5 s5 o5
          obtain ⟨g5, o5b, s5b⟩ := kb s5 o5
          cases b with
          | false =>
            refine iteF ⟨hlt, ?_⟩
            obtain ⟨fc, oc, mc⟩ := Ok.wipeE vs o5
            have oc' : Ok X.K ad F5 H5 (Mn.wipeE E3 vs) (L2.wipe σ vs) fc := oc.wipeS (by rw [wipe_length, d4.1, wipe_length]) fun j hj => by rw [← ew, wipe_out j hj]
            obtain ⟨g6, o6, s6⟩ := kb (s5.trans (Step.perm mc)) oc'
            exact ⟨F5, E3, acc, g6, sF.trans (s2.trans (s4.f.trans s5.f)), o6, pstep z' (st3.trans (s4b.trans s6))⟩
          | true =>
            simp only [if_true] at z'
            refine iteT ?_
            obtain ⟨fd, od, md, kd⟩ := Ok.frame' (P := [some (.dct acc)]) (PS := [some (.ref D)]) rfl o5b
            refine qk F5 H5 E3 σ4 fd _ od ?_
            cases hk : mk E3 with
            | exc c E2 => rw [hk] at z'; exact z'.elim
            | bad => rw [hk] at z'; exact z'.elim
            | ok k E4 =>
              rw [hk, only_ok] at z'
              intro F6 H6 yk f6 s6 o6
              refine qe [some k] [some yk] F6 H6 E4 σ4 f6 _ rfl o6 ?_
              cases he : m E4 with
              | exc c E2 => rw [he] at z'; exact z'.elim
              | bad => rw [he] at z'; exact z'.elim
              | ok o E5 =>
                rw [he, only_ok] at z'
                intro F7 H7 w f7 s7 o7
                have o7 : Ok X.K ad F7 H7 (some k :: some o :: E5) (some yk :: some w :: σ4) f7 := o7
                have iy := o7.isHead
                obtain ⟨g7, o7b, s7b⟩ := o7.tl'
                cases hko : kOf k.toD with
                | none => rw [hko] at z'; exact z'.elim
                | some kk =>
                rw [hko] at z'
                simp only at z'
                by_cases hz : acc.length < sizeLine
                · rw [if_pos hz] at z'
                  obtain ⟨fe, oe, me, ke⟩ := Ok.frame' (P := [some o]) (PS := [some w]) rfl o7b
                  obtain ⟨ff, of, mf⟩ := Ok.wipeE vs oe
                  have of' : Ok X.K ad F7 H7 (Mn.wipeE E5 vs) (L2.wipe σ vs) ff := of.wipeS (by rw [wipe_length, d4.1, wipe_length]) fun j hj => by rw [← ew, wipe_out j hj]
                  obtain ⟨g8, o8, s8⟩ := ke (Step.perm mf) of'
                  obtain ⟨g9, o9, s9⟩ := kd (s6.trans (s7.trans (s7b.trans s8))) o8
                  have r9 := o9.rep
                  cases r9 with
                  | @put _ _ _ _ fo0 fr0 ro r9 =>
                  cases ro with
                  | @dct _ _ ws fo h nd rk =>
                  cases r9 with
                  | @put _ _ _ _ fx f2 rx rE =>
                  obtain ⟨gp, dd, rg, pm, nn, _⟩ := rk.put (k := kk) nd rx
                  have nd3 : ((D :: fo) ++ (fx ++ f2)).Nodup := o9.nd
                  obtain ⟨n1, n2⟩ := perm_sub pm (nodup_mid nd3)
                  have tr : ∀ z ∈ fo ++ fx, ∃ u, H7 z = some u := fun z hz => by
                    rcases List.mem_append.mp hz with q | q
                    · exact rk.trk z q
                    · exact rx.trk z q
                  have wr := Ok.write (n := .dK (putK ws (Mn.tk kk) w)) (o := .dct acc) (o' := .dct (putO acc kk o)) (res := .fz .non) (v := .non) (fr := []) (fo' := gp) o9.sub nd3 o9.nf (by rw [h]; simp) rE tr (.fz .non)
                    (by simpa using n1) (fun z hz => n2 z (by simpa using hz)) fun H' kp ha => .dct ha nn (rg.mono (Same.refl _) fun z hz u e => kp z u (not_a nd3 z (n2 z hz)) e)
                  have el : acc.length = ws.length := by simpa using rk.toL.1.length
                  obtain ⟨g10, o10, s10⟩ := wr.2.tl'
                  refine ⟨ws, Mn.tk kk, tk_kV iy hko, h, by omega, hlt, F7, E5, putO acc kk o, g10, sF.trans (s2.trans (s4.f.trans (s5.f.trans (s6.f.trans s7.f)))), o10, ?_⟩
                  exact pstep z' (st3.trans (s4b.trans (s5b.trans (s9.trans (wr.1.trans s10)))))
                · rw [if_neg hz] at z'; exact z'.elim
    · have e : i = ds.length := by omega
      subst e
      refine .inl ⟨wk.stop F' H' sF ok'.sub, ?_⟩
      rw [List.drop_length] at z'
      unfold dIter at z'
      have o2 : Ok X.K ad F' H' (some (.dct acc) :: Mn.wipeE (Mn.wipeE E' vs) vs) (some (.ref D) :: L2.wipe σ vs) f' := by
        have : Mn.wipeE (Mn.wipeE E' vs) vs = Mn.wipeE E' vs := by
          apply List.ext_getElem?
          intro j
          rw [wipeE_get, wipeE_get]
          by_cases hj : j ∈ vs
          · simp only [if_pos hj, Option.map_map]; rfl
          · rw [if_neg hj]
        rw [this]
        exact ok'
      exact z' F' H' f' (Step.refl _ _ _) o2
/-- the value's reading, whatever stands beside -/
def tePre (K : PySem.W.Frag) (ad : Nat → Addr) (m : M O) : TE := fun σ H Q => ∃ F E f P PS, P.length = PS.length ∧ Ok K ad F H (P ++ E) (PS ++ σ) f ∧ Aft K ad W0 P PS F H f σ (m E) Q
theorem SE.canonP {X : Cx} {e : Expr} (h : SE X ad W0 e m) : PE X e (tePre X.K ad m) := by
  obtain ⟨te, p, q⟩ := h.run
  exact PE.imp p fun σ H Q ⟨F, E, f, P, PS, hl, ok, a⟩ => q P PS F H E σ f Q hl ok a
theorem s_dcomp (hc : X.calm = true) (hN : X.N.Nodup) (own : List (Str × Nat)) (hi : SI X ad W tg iter mi)
    (hg : ∀ (s : Shared) (H : Hp) (C : Addr) (cl : List (Str × Addr)) (fp : List Addr), SG (X.blk s H scope (compEnvC scope cl C X.env) fp) ad W0 sl tg t)
    (ht : ∀ (s : Shared) (H : Hp) (C : Addr) (cl : List (Str × Addr)) (fp : List Addr), SC (X.blk s H scope (compEnvC scope cl C X.env) fp) ad ifs c)
    (hk : ∀ (s : Shared) (H : Hp) (C : Addr) (cl : List (Str × Addr)) (fp : List Addr), SE (X.blk s H scope (compEnvC scope cl C X.env) fp) ad W0 kx mk)
    (he : ∀ (s : Shared) (H : Hp) (C : Addr) (cl : List (Str × Addr)) (fp : List Addr), SE (X.blk s H scope (compEnvC scope cl C X.env) fp) ad W0 elt m)
    (ok : BlkOk X.N X.env.scope scope own) (hsl : ∀ i ∈ sl, i ∈ own.map (·.2) := by decide)
    (hs : ∀ x, foldedSetIterable iter X.env x = pure x := by intro _; rfl) : SE X ad W (.DictComp kx elt [⟨tg, iter, ifs, 0⟩] scope pos) (mDComp (own.map (·.2)) t mi c mk m) := by
  obtain ⟨wi, pi, qi⟩ := hi.ex
  refine ⟨_, pe_dc (g := tgOf X.K ad W0 sl t) (tt := ttOf X.K ad c) (tk := teOf X.K ad W0 mk) (tv := tePre X.K ad m) hc hN pi ok (fun s H C cl fp => (hg s H C cl fp).canon) (fun s H C cl fp => (ht s H C cl fp).canon) (fun s H C cl fp => (hk s H C cl fp).canon) (fun s H C cl fp => (he s H C cl fp).canonP) hs, ?_⟩
  exact dcomp_core hsl qi (fun F H E σ f o v Q ok a => ⟨F, E, f, o, ok, a⟩) (fun F H E σ f Q ok a => ⟨F, E, f, ok, a⟩) (fun F H E σ f Q ok a => ⟨F, E, f, ok, a⟩) (fun P PS F H E σ f Q hl ok a => ⟨F, E, f, P, PS, hl, ok, a⟩)
end
end Mn

set_option Elab.async false
set_option linter.all false
set_option maxRecDepth 100000
set_option maxHeartbeats 4000000
namespace Mn
open PySem PySem.Spec PyProof.Rows L2

/-! ### a < b <= c -/
def mChain (g g' : D → D → Option D) (ma mb mc : M O) : M O := fun E => (ma E).bind fun x E1 => (mb E1).bind fun y E2 => match g x.toD y.toD with
  | some (.bl true) => (mc E2).bind fun z E3 => match g' y.toD z.toD with
    | some d => .ok (.fz d) E3
    | none => .bad
  | some (.bl false) => .ok (.fz (.bl false)) E2
  | _ => .bad
def qOrd (g : Int → Int → Bool) (k : List Nat → List Nat → Bool) (a b : D) : Option D := dOrd g k [a, b]
section
variable {X : Cx} {ad : Nat → Addr} {W : WX} {a b c : Expr} {ma mb mc : M O} {pos : Pos}
theorem b_ord {g : Int → Int → Bool} {k : List Nat → List Nat → Bool} : BPrm X ad (rOrd g k) (qOrd g k) := by
  refine ⟨fun H a b x y d Q ra rb e q => ?_⟩
  unfold qOrd dOrd at e
  split at e
  · next i j e2 =>
    simp only [List.cons.injEq, and_true] at e2
    obtain ⟨rfl, rfl⟩ := e2
    cases e; cases ra; cases rb
    exact .inl ⟨i, j, rfl, rfl, q _ fun F => .bl _⟩
  · next i j e2 =>
    simp only [List.cons.injEq, and_true] at e2
    obtain ⟨rfl, rfl⟩ := e2
    cases e; cases ra; cases rb
    exact .inr ⟨_, _, rfl, rfl, by simpa using q _ fun F => .bl _⟩
  · cases e
theorem chain_core {r r' : R2} {g g' : D → D → Option D} (p : BPrm X ad r g) (p' : BPrm X ad r' g') (ha : SE X ad W a ma) (hb : SE X ad W b mb) (hc : SE X ad W c mc) : ∃ ta tb tc, PE X a ta ∧ PE X b tb ∧ PE X c tc ∧
    ∀ F H E σ f Q, Ok X.K ad F H E σ f → Aft X.K ad W [] [] F H f σ (mChain g g' ma mb mc E) Q → tChain r r' ta tb tc σ H Q := by
  obtain ⟨ta, pa, qa⟩ := ha.ex
  obtain ⟨tb, pb, qb⟩ := hb.run
  obtain ⟨tc, pc, qc⟩ := hc.run
  refine ⟨ta, tb, tc, pa, pb, pc, fun F H E σ f Q ok q => qa F H E σ f _ ok ?_⟩
  unfold mChain at q
  cases hm : ma E with
  | bad => rw [hm] at q; exact q
  | exc c E1 => rw [hm] at q; exact fun F' H' f' s o => q F' H' f' s o
  | ok x E1 =>
    rw [hm, bind_ok] at q
    intro F1 H1 v f1 s1 o1
    refine qb [some x] [some v] F1 H1 E1 σ f1 _ rfl o1 ?_
    cases hm2 : mb E1 with
    | bad => rw [hm2] at q; exact q
    | exc c E2 => rw [hm2] at q; exact fun F' H' f' s o => q F' H' f' (s1.trans s) o
    | ok y E2 =>
      rw [hm2, bind_ok] at q
      intro F2 H2 u f2 s2 o2
      have o2 : Ok X.K ad F2 H2 (some x :: some y :: E2) (some v :: some u :: σ) f2 := o2
      have ix := o2.isHead
      obtain ⟨g1, o3, s3⟩ := o2.tl'
      have iy := o3.isHead
      have st := s1.trans (s2.trans s3)
      split at q
      · next hd =>
        refine p.ok H2 x.toD y.toD v u _ _ ix iy hd fun w hw => ?_
        have := hw F2
        cases this
        refine ⟨true, rfl, ?_⟩
        rw [if_pos rfl]
        refine qc [some y] [some u] F2 H2 E2 σ g1 _ rfl o3 ?_
        cases hm3 : mc E2 with
        | bad => rw [hm3] at q; exact q
        | exc c E3 => rw [hm3] at q; exact fun F' H' f' s o => q F' H' f' (st.trans s) o
        | ok z E3 =>
          rw [hm3, bind_ok] at q
          intro F4 H4 w f4 s4 o4
          have o4 : Ok X.K ad F4 H4 (some y :: some z :: E3) (some u :: some w :: σ) f4 := o4
          have iy4 := o4.isHead
          obtain ⟨g5, o5, s5⟩ := o4.tl'
          have iz := o5.isHead
          obtain ⟨g6, o6, s6⟩ := o5.tl'
          split at q
          · next d hd' => exact p'.ok H4 y.toD z.toD u w d Q iy4 iz hd' fun w' hw' => q F4 H4 w' g6 (st.trans (s4.trans (s5.trans s6))) (o6.dat (hw' F4))
          · exact q.elim
      · next hd =>
        refine p.ok H2 x.toD y.toD v u _ _ ix iy hd fun w hw => ?_
        have := hw F2
        cases this
        refine ⟨false, rfl, ?_⟩
        rw [if_neg Bool.false_ne_true]
        obtain ⟨g6, o6, s6⟩ := o3.tl'
        exact q F2 H2 _ g6 (st.trans s6) (o6.bl false)
      · exact q.elim
theorem t_chain {op op' : CmpOp} {r r' : R2} {g g' : D → D → Option D} (ho : OpR X (compareOp op) r) (ho' : OpR X (compareOp op') r') (p : BPrm X ad r g) (p' : BPrm X ad r' g') (ha : SE X ad W a ma) (hb : SE X ad W b mb) (hc : SE X ad W c mc)
    (hm : lastMarks [op, op'] [b, c] = false := by with_unfolding_all rfl) : ST X ad W (.Compare a [op, op'] [b, c] pos) (mAsB (mChain g g' ma mb mc)) := by
  obtain ⟨ta, tb, tc, pa, pb, pc, q⟩ := chain_core p p' ha hb hc
  exact ⟨_, pt_chain ho ho' pa pb pc hm, asB_core q⟩
theorem s_chain {op op' : CmpOp} {r r' : R2} {g g' : D → D → Option D} (ho : OpR X (compareOp op) r) (ho' : OpR X (compareOp op') r') (p : BPrm X ad r g) (p' : BPrm X ad r' g') (ha : SE X ad W a ma) (hb : SE X ad W b mb) (hc : SE X ad W c mc)
    (hm : lastMarks [op, op'] [b, c] = false := by with_unfolding_all rfl) : SE X ad W (.Compare a [op, op'] [b, c] pos) (mChain g g' ma mb mc) := by
  obtain ⟨ta, tb, tc, pa, pb, pc, q⟩ := chain_core p p' ha hb hc
  exact ⟨_, pe_chain ho ho' pa pb pc hm, q⟩
end

/-! ### t[::-1] of a tuple -/
section
variable {prog : Program} {w : World} {A : Around} {E : Value → Shared → Prop} {s : Shared}
theorem applied_rev {sl : Addr} {t : Tok} {n : Nat} {Q : Int × Int × Nat → Shared → Prop} (hs : s.heap.IsSliceOf sl .none .none (.int (-1) t))
    (h : Q ((n : Int) - 1, -1, n) s) : wpAny (model prog w) A (Builtin.Slice.sliceApplied (.ref sl) (pure (n : Int))) Q E s := by
  obtain ⟨os, hos, hcs, hds⟩ := id hs
  unfold Builtin.Slice.sliceApplied Builtin.Slice.sliceFields
  refine wpAny_bind (wpAny_bind (wpAny_field hos hds (x := .none) rfl (wpAny_bind (wpAny_field hos hds (x := .none) rfl (wpAny_bind (wpAny_field hos hds (x := .int (-1) t) rfl (wpAny_pure ?_)))))))
  refine wpAny_bind (slicePart_int ?_)
  show wpAny _ _ (if ((-1 : Int) == 0) = true then _ else _) _ _ s
  rw [if_neg (by decide)]
  refine wpAny_bind (slicePart_none (wpAny_bind (slicePart_none (wpAny_bind (wpAny_pure ?_)))))
  have e1 : Builtin.Slice.sliceAdjust none none (-1) (n : Int) = ((n : Int) - 1, -1) := by
    unfold Builtin.Slice.sliceAdjust
    simp
  show wpAny _ _ (match Builtin.Slice.sliceAdjust none none (-1) (n : Int) with | (lo, hi) => pure (lo, (-1 : Int), Builtin.Slice.slicePlaces lo hi (-1))) _ _ s
  rw [e1]
  show wpAny _ _ (pure ((n : Int) - 1, (-1 : Int), Builtin.Slice.slicePlaces ((n : Int) - 1) (-1) (-1))) _ _ s
  have e2 : Builtin.Slice.slicePlaces ((n : Int) - 1) (-1) (-1) = n := by
    unfold Builtin.Slice.slicePlaces
    rw [if_neg (by decide)]
    by_cases hn : n = 0
    · subst hn; rfl
    · rw [if_pos (by omega)]
      simp
  rw [e2]
  exact wpAny_pure h
theorem filterMap_some {α β : Type} {f : α → Option β} {g : α → β} : ∀ {l : List α}, (∀ x ∈ l, f x = some (g x)) → l.filterMap f = l.map g
  | [], _ => rfl
  | x :: r, h => by rw [List.filterMap_cons, h x List.mem_cons_self, List.map_cons, filterMap_some fun y hy => h y (List.mem_cons_of_mem _ hy)]
theorem pick_rev (xs : Array Value) : ((List.range xs.size).filterMap fun (m : Nat) => xs[(((xs.size : Int) - 1) + (m : Int) * (-1)).toNat]?).toArray = xs.toList.reverse.toArray := by
  congr 1
  apply List.ext_getElem?
  intro i
  have e : ((List.range xs.size).filterMap fun (m : Nat) => xs[(((xs.size : Int) - 1) + (m : Int) * (-1)).toNat]?) = (List.range xs.size).map fun m => xs.toList.reverse.getD m .none := by
    apply filterMap_some
    intro m hm
    have hm := List.mem_range.mp hm
    have e1 : (((xs.size : Int) - 1) + (m : Int) * (-1)).toNat = xs.size - 1 - m := by omega
    rw [e1]
    show _ = some (xs.toList.reverse.getD m .none)
    rw [List.getD_eq_getElem?_getD, List.getElem?_reverse (by simpa using hm)]
    rw [Array.length_toList, Array.getElem?_toList, Array.getElem?_eq_getElem (by omega)]
    rfl
  rw [e, List.getElem?_map]
  by_cases hi : i < xs.size
  · rw [List.getElem?_range hi]
    show some (xs.toList.reverse.getD i .none) = _
    rw [List.getD_eq_getElem?_getD, List.getElem?_eq_getElem (by simpa using hi)]
    rfl
  · rw [List.getElem?_eq_none (by simpa using hi), List.getElem?_eq_none (by simpa using hi)]
    rfl
theorem getItem_tuple_rev {t sl : Addr} {items : Array Value} {tk : Tok} {Q : Value → Shared → Prop} (ht : IsTup s.heap t items) (hs : s.heap.IsSliceOf sl .none .none (.int (-1) tk))
    (h : Q (.ref s.heap.objs.size) { s with heap := s.heap.push { cls := .type "tuple", data := .seq items.toList.reverse.toArray } })
    (hsz : items.size ≤ sizeLine) : wpAny (model prog w) A (getItem (.ref t) (.ref sl)) Q E s := by
  have htake : sizeOk (.seq items.toList.reverse.toArray) := by
    show items.toList.reverse.toArray.size ≤ sizeLine
    simpa using hsz
  obtain ⟨os, hos, hcs, hds⟩ := id hs
  have hTs : s.TypeIs (.ref sl) "slice" := ⟨os, hos, hcs⟩
  unfold getItem
  try with_reducible refine wpAny_holding ?_
  first | refine wpAny_bind (wpAny_pure ?_) | skip
  refine wpAny_bind (wpAny_sequenceKey ht.typeIs (by decide) ?_)
  refine wpAny_bind (wpAny_callSpecial?_slot (name := Str.ofString "__getitem__") ht.typeIs PyProof.Rows.slot_tuple_getitem
    (wpAny_call_entry PyProof.Rows.slot_tuple_getitem ht.typeIs entry_tuple_getitem ?_ (args_tuple_getitem _ _)))
  show wpAny _ _ (Builtin.Tuple.tupleItemsOf (.ref t) >>= _) _ _ s
  refine wpAny_bind (tupleItemsOf_ ht ?_)
  refine wpAny_bind (wpAny_typeOf hTs ?_)
  rw [if_pos (by decide)]
  refine wpAny_bind (applied_rev hs ?_)
  have hno : ¬ ((((items.size : Int) - 1) == 0 && (-1 : Int) == 1 && items.size == items.size) = true) := by
    intro q
    rw [Bool.and_eq_true, Bool.and_eq_true] at q
    exact absurd (eq_of_beq q.1.2) (by decide)
  show wpAny _ _ (if (((items.size : Int) - 1) == 0 && (-1 : Int) == 1 && items.size == items.size) = true then _ else _) _ _ s
  rw [if_neg hno, pick_rev]
  first
    | exact wpAny_bind (m := Builtin.Tuple.tupleExact _) (wpAny_newObj_type (wpAny_pure ⟨_, rfl, wpAny_pure h⟩) htake)
    | exact wpAny_bind (m := Builtin.Tuple.tupleExact _) (wpAny_newObj_type (wpAny_bind (wpAny_pure (wpAny_pure ⟨_, rfl, wpAny_pure h⟩))) htake)
    | exact wpAny_bind (wpAny_bind (m := Builtin.Tuple.tupleExact _) (wpAny_newObj_type (wpAny_pure (wpAny_pure ⟨_, rfl, wpAny_pure h⟩)) htake))
    | exact wpAny_bind (wpAny_bind (m := Builtin.Tuple.tupleExact _) (wpAny_newObj_type (wpAny_pure ⟨_, rfl, wpAny_pure h⟩) htake))
end
def tRevT (K : PySem.W.Frag) (te : TE) : TE := fun σ H Q => te σ H fun x H1 => ∃ a xs, x = .ref a ∧ SqT K H1 a xs ∧ ∀ p, H1 p = none → Q (.ref p) (upd H1 p (.tup xs.reverse))
section
variable {X : Cx} {ad : Nat → Addr} {W : WX} {e : Expr} {te : TE} {ma : M O}
theorem pe_revT {k : Nat} {p1 p2 p3 pos : Pos} (he : PE X e te) : PE X (.Subscript e (.Slice none none (some (.UnaryOp .USub (.Constant (.int 1) k p1) p2)) p3) pos) (tRevT X.K te) := by
  refine ⟨fun pins s σ H Q I h => ?_⟩
  refine Subscript_ (thn (he.run pins s σ H _ I h) fun v s1 ⟨x, H1, I1, r1, q1⟩ => ?_)
  obtain ⟨a, xs, ex, hx, q⟩ := q1
  subst ex
  cases r1
  have hst : PO X (some (.UnaryOp .USub (.Constant (.int 1) k p1) p2)) (tPart (tUn (rU fun i => .int (-i)) (tC (.int 1)))) := po_some (pe_un un_neg pe_int)
  refine wpAny_Slice (thn (po_none.run pins s1 σ H1 (fun o H2 => o = none ∧ H2 = H1) I1 ⟨rfl, rfl⟩) fun vl s2 ⟨l, H2, I2, pl, el, e2⟩ => ?_)
  subst el e2
  refine thn (po_none.run pins s2 σ H2 (fun o H3 => o = none ∧ H3 = H2) I2 ⟨rfl, rfl⟩) fun vu s3 ⟨u, H3, I3, pu, eu, e3⟩ => ?_
  subst eu e3
  refine thn (hst.run pins s3 σ H3 (fun o H4 => o = some (-1) ∧ H4 = H3) I3 ⟨1, rfl, -1, rfl, rfl, rfl⟩) fun vs s4 ⟨o, H4, I4, ps, eo, e4⟩ => ?_
  subst eo e4
  cases pl
  cases pu
  cases ps with
  | int _ tk =>
  have I5 : Inv X pins σ H4 { s4 with heap := s4.heap.push { cls := .type "slice", data := .fields #[.none, .none, .int (-1) tk] } } := I4.kept (t' := s4.toks) fun b ob q => Heap.get?_push_of_some _ q
  obtain ⟨its, r, ht, hz⟩ := I5.tuple hx
  have hlen := r.length
  show wpAny (model X.prog X.w) X.A (subscriptTail e (.Slice none none (some (.UnaryOp .USub (.Constant (.int 1) k p1) p2)) p3) (.ref a) (.ref s4.heap.objs.size)) (EP X pins σ Q) X.xe { s4 with heap := s4.heap.push { cls := .type "slice", data := .fields #[.none, .none, .int (-1) tk] } }
  refine tail_any (ops := [.ref a, .ref s4.heap.objs.size]) ht.typeIs (PyProof.Rows.slot_tuple_getitem.lookup) ?_ (by with_unfolding_all rfl)
  refine getItem_tuple_rev ht (Heap.IsSliceOf.new _ .none .none (.int (-1) tk)) ?_ (by rw [List.size_toArray]; omega)
  refine ⟨.ref _, _, I5.laid (t' := s4.toks) (o := .tup xs.reverse) (fun b ob q => Heap.get?_push_of_some _ q) (Nat.le_refl _) ?_, rfl, q _ (I5.hok.fresh (Nat.le_refl _))⟩
  exact ⟨by rw [List.length_reverse]; exact hz, _, r.reverse, IsTup.new _ _⟩
def revT : D → Option D
  | .tup ds => if ds.length ≤ sizeLine then some (.tup ds.reverse) else none
  | _ => none
def mRevT (ma : M O) : M O := fun E => (ma E).bind fun a E1 => match revT a.toD with
  | some d => .ok (.fz d) E1
  | none => .bad
theorem s_revT {k : Nat} {p1 p2 p3 pos : Pos} (he : SE X ad W e ma) : SE X ad W (.Subscript e (.Slice none none (some (.UnaryOp .USub (.Constant (.int 1) k p1) p2)) p3) pos) (mRevT ma) := by
  obtain ⟨te, pe, qe⟩ := he.ex
  refine ⟨_, pe_revT pe, fun F H E σ f Q ok q => qe F H E σ f _ ok ?_⟩
  unfold mRevT at q
  cases hm : ma E with
  | exc c E1 => rw [hm] at q; exact fun F' H' f' s o => q F' H' f' s o
  | bad => rw [hm] at q; exact q
  | ok a E1 =>
    rw [hm, bind_ok] at q
    intro F1 H1 v f1 s1 o1
    obtain ⟨F4, f4, s4, o4, _⟩ := o1.freeze
    have iv := o4.head
    obtain ⟨f5, o5, s5⟩ := o4.tl'
    have st := s1.trans (s4.trans s5)
    cases hc : revT a.toD with
    | none => rw [hc] at q; exact q.elim
    | some d =>
      rw [hc] at q
      generalize a.toD = d0 at iv hc
      cases iv with
      | @tup p ds vs hs r =>
        have hc : (if ds.length ≤ sizeLine then some (D.tup ds.reverse) else none) = some d := hc
        by_cases hz : ds.length ≤ sizeLine
        · rw [if_pos hz] at hc
          cases hc
          refine ⟨p, vs, rfl, Same.sqT o4.sub hs, fun n hn => ?_⟩
          obtain ⟨s7, o7⟩ := o5.newTup hn (by rw [List.length_reverse, ← r.length]; exact hz) r.reverse
          exact q _ _ _ _ (st.trans s7) o7
        · rw [if_neg hz] at hc; cases hc
      | _ => cases hc
end
end Mn

set_option Elab.async false
set_option linter.all false
set_option maxRecDepth 100000
set_option maxHeartbeats 4000000
namespace Mn
open PySem PySem.Spec PyProof.Rows L2
theorem hu64 {n : Nat} (h : n + 65 < cLine) : n + 64 < cLine := by omega
theorem room65 {k : Nat} {A : Around} (h : Room k A) : A.units + 65 < cLine := by have := h.un; omega
def qLt : D → D → Option D := qOrd (fun i j => decide (i < j)) (fun i j => decide (i < j))
def qLe : D → D → Option D := qOrd (fun i j => decide (i ≤ j)) (fun i j => !decide (j < i))
def qGt : D → D → Option D := qOrd (fun i j => decide (j < i)) (fun i j => decide (j < i))
def qGe : D → D → Option D := qOrd (fun i j => decide (j ≤ i)) (fun i j => !decide (i < j))
section
variable {X : Cx} {ad : Nat → Addr} {W : WX} {x : Str} {pos : Pos}
theorem tk0 : Takes X W0 := fun u s' ⟨_, _, _, _, _, _, _, _, _, _, _, _, _, _, _, _, w⟩ => w.elim
theorem sgI {i : Int} (h : ∃ t, X.mg x = some (.int i t)) (hg : Gl X x := by rfl) (hdb : (x == ("__debug__" : Str)) = false := by decide) : SE X ad W (.Name x pos) (mLit (.int i)) := by
  obtain ⟨t, h⟩ := h
  exact s_glob h (v := .int i) ⟨t, rfl⟩ (fun _ => .int i) hg hdb
theorem sgS (s : List Nat) {z : Str} (h : ∃ t, X.mg x = some (.str z t)) (hz : z = ⟨s.toArray⟩ := by decide +kernel) (hg : Gl X x := by rfl) (hdb : (x == ("__debug__" : Str)) = false := by decide) : SE X ad W (.Name x pos) (mLit (.str s)) := by
  obtain ⟨t, h⟩ := h
  subst hz
  exact s_glob h (v := .str _) ⟨t, rfl⟩ (fun _ => .str s) hg hdb
end
section
variable {X : Cx}
theorem ps_setDc {i : Nat} {y : Str} {py : Pos} {kx vx tg iter : Expr} {ifs : List Expr} {scope : Scope} {own : List (Str × Nat)} {pos spos : Pos} {wi : TI} {g : TG} {tt : TT} {tk tv : TE} (hc : X.calm = true) (hN : X.N.Nodup) (hy : X.N[i]? = some y) (hyl : X.env.scope.names.lookup y = some .local)
    (hsw : swapsWith (.DictComp kx vx [⟨tg, iter, ifs, 0⟩] scope pos) (some (.Name y py)) spos.line X.env = pure true) (hi : PI X tg iter wi) (ok : BlkOk X.N X.env.scope scope own)
    (hg : ∀ (s : Shared) (H : Hp) (C : Addr) (cl : List (Str × Addr)) (fp : List Addr), PG (X.blk s H scope (compEnvC scope cl C X.env) fp) tg g) (ht : ∀ (s : Shared) (H : Hp) (C : Addr) (cl : List (Str × Addr)) (fp : List Addr), PTs (X.blk s H scope (compEnvC scope cl C X.env) fp) ifs tt)
    (hk : ∀ (s : Shared) (H : Hp) (C : Addr) (cl : List (Str × Addr)) (fp : List Addr), PE (X.blk s H scope (compEnvC scope cl C X.env) fp) kx tk)
    (he : ∀ (s : Shared) (H : Hp) (C : Addr) (cl : List (Str × Addr)) (fp : List Addr), PE (X.blk s H scope (compEnvC scope cl C X.env) fp) vx tv) (hs : ∀ x, foldedSetIterable iter X.env x = pure x := by intro _; rfl) :
    PS X (.Assign [.Name y py] (.DictComp kx vx [⟨tg, iter, ifs, 0⟩] scope pos) spos) (tAsg (tDc wi g tt tk tv (own.map (·.2))) (gName i)) := by
  refine ⟨fun pins s σ H D I h => ?_⟩
  rw [exec_Assign_Name_used _ _ _ _ hsw]
  refine wpAny_bind (wpAny_standAt (wpAny_bind ?_))
  show wpAny _ X.A (do let _ ← comprehension (.DictComp kx vx [⟨tg, iter, ifs, 0⟩] scope pos) scope X.env (firstIterPos [⟨tg, iter, ifs, 0⟩] pos) newDict false (eval iter X.env) (some (assign (.Name y py) X.env))) _ _ s
  have h : tDc wi g tt tk tv (own.map (·.2)) σ H (fun x H1 => gName i x σ H1 D.nx) := h
  refine wpAny_bind (thn (dc_core (Qf := fun _ s' => SP X pins D .next s') hc hN I hi ok hg ht hk he hs h fun L C s' m H' I' q hn f => ?_) fun _ s' hq => wpAny_pure (wpAny_pure hq))
  show wpAny _ _ (assign (.Name y py) X.env (.ref L)) _ _ _
  refine wpAny_assign_Name (store_ok2 (v := V.ref L) I' hN hy (.inl hyl) rfl (fun s2 I2 ⟨a, sb, ha⟩ => ?_) (.inr hyl))
  obtain ⟨f0, f1, f2, f3, f4, f5⟩ := f
  have haC : C ≠ a := by
    rcases ha with z | z
    · rw [z]; exact f1
    · exact fun e => f4 y a z e.symm
  refine ⟨m, hn.sameBut sb haC, fun h3 sb3 => ?_⟩
  exact ⟨_, H', I2.turned (t' := s2.toks) (fun b o hb e => (sb3.2 b hb).trans e) f0 f1 f3 f4 f5, q⟩
theorem sw_trueD {kx vx : Expr} {gs : List Comprehension} {scope : Scope} {pos py : Pos} {y : Str} {l : Nat} {env : Env} (hk : env.scope.kind = .function) (hy : env.scope.names.lookup y = some .local) (hl : (py.line == pos.line) = true)
    (ha : (scope.names.any fun (n, k) => n == y && (k == .local || k == .cell)) = false) : swapsWith (.DictComp kx vx gs scope pos) (some (.Name y py)) l env = pure true := by
  have ky : env.kindOf y = some .local := hy
  have hb : env.blockKind = .function := by unfold Env.blockKind; rw [hk]; rfl
  unfold swapsWith
  simp only [hb, ky, ha, Expr.pos, hl]
  rfl
end
section
variable {X : Cx} {ad : Nat → Addr} {W : WX} {elt kx tg iter : Expr} {ifs : List Expr} {scope : Scope} {pos : Pos} {sl : List Nat} {t : Mt} {mi : M (List Mn.D)} {c : M Bool} {mk m : M O}
/-- name = {..} -/
theorem z_dcomp {io : List Nat} {i : Nat} {y : Str} {py spos : Pos} (hc : X.calm = true) (hN : X.N.Nodup) (own : List (Str × Nat)) (hi : SI X ad W tg iter mi)
    (hg : ∀ (s : Shared) (H : Hp) (C : Addr) (cl : List (Str × Addr)) (fp : List Addr), SG (X.blk s H scope (compEnvC scope cl C X.env) fp) ad W0 sl tg t)
    (ht : ∀ (s : Shared) (H : Hp) (C : Addr) (cl : List (Str × Addr)) (fp : List Addr), SC (X.blk s H scope (compEnvC scope cl C X.env) fp) ad ifs c)
    (hk : ∀ (s : Shared) (H : Hp) (C : Addr) (cl : List (Str × Addr)) (fp : List Addr), SE (X.blk s H scope (compEnvC scope cl C X.env) fp) ad W0 kx mk)
    (he : ∀ (s : Shared) (H : Hp) (C : Addr) (cl : List (Str × Addr)) (fp : List Addr), SE (X.blk s H scope (compEnvC scope cl C X.env) fp) ad W0 elt m)
    (hy : X.N[i]? = some y) (hyl : X.env.scope.names.lookup y = some .local) (ok : BlkOk X.N X.env.scope scope own)
    (hsw : swapsWith (.DictComp kx elt [⟨tg, iter, ifs, 0⟩] scope pos) (some (.Name y py)) spos.line X.env = pure true) (hsl : ∀ i ∈ sl, i ∈ own.map (·.2) := by decide) (h0 : ∀ j ∈ io, j ≠ i := by decide)
    (hs : ∀ x, foldedSetIterable iter X.env x = pure x := by intro _; rfl) : SS X ad W io (.Assign [.Name y py] (.DictComp kx elt [⟨tg, iter, ifs, 0⟩] scope pos) spos) (mAsg (tName i) (mDComp (own.map (·.2)) t mi c mk m)) := by
  obtain ⟨wi, pi, qi⟩ := hi.ex
  refine ⟨_, ps_setDc (g := tgOf X.K ad W0 sl t) (tt := ttOf X.K ad c) (tk := teOf X.K ad W0 mk) (tv := tePre X.K ad m) hc hN hy hyl hsw pi ok (fun s H C cl fp => (hg s H C cl fp).canon) (fun s H C cl fp => (ht s H C cl fp).canon) (fun s H C cl fp => (hk s H C cl fp).canon) (fun s H C cl fp => (he s H C cl fp).canonP) hs, ?_⟩
  refine asg_core (sl := [i]) (W := W) (fun j hj => by simpa using h0 j hj) (dcomp_core hsl qi (fun F H E σ f o v Q ok a => ⟨F, E, f, o, ok, a⟩) (fun F H E σ f Q ok a => ⟨F, E, f, ok, a⟩) (fun F H E σ f Q ok a => ⟨F, E, f, ok, a⟩) (fun P PS F H E σ f Q hl ok a => ⟨F, E, f, P, PS, hl, ok, a⟩)) ?_
  intro F H E σ f o v Q ok q
  obtain ⟨g, o2, ms⟩ := ok.assign i
  refine q F H _ g (Step.perm ms) o2 ⟨by simp, fun j h => ?_⟩
  rw [List.getElem?_set_ne fun e => h (by simp [e])]
end
/-- what a call lets out, of whichever program and world -/
def CX1 : CXT := fun outer H s E e s' => ∃ P w, L2.CX P w outer H s E e s'
theorem CX1_no {H : Hp} {s : Shared} {e : Value} {s' : Shared} (h : CX1 [] H s (fun _ _ _ => False) e s') : False := by
  obtain ⟨P, w, a, B, H', cls, d, _, _, _, _, _, _, _, z⟩ := h
  exact z
theorem cx1 {P : Program} {w : World} {K : PySem.W.Frag} {mg : Str → Option Value} {base : Heap} {k : Nat} {f : Addr} {fd : FuncData} {ps : List Str} {sp : Sp} (F : FnOk P w K mg base (L2.CX P w) k f fd ps sp) : FnOk P w K mg base CX1 k f fd ps sp :=
  ⟨F.len, fun A outer s H args us vs Q E hr h0 b r q => codeAny_mono (F.run A outer s H args us vs Q E hr h0 b r q) fun r s' h => by
    cases r with
    | error e => exact ⟨P, w, h⟩
    | ok fl => cases fl <;> exact h⟩
theorem law_sp {K : PySem.W.Frag} {ad : Nat → Addr} {φ : List O → Cr} {H : Hp} {a : Addr} {ns : List Int} {E : XK} (h : ∃ s, φ [.fz (.scr ns)] = .ok (.fz (.bl true)) s) (hS : SqL K H a (ns.map V.int)) : spOf K ad 1 φ [.ref a] H (fun v _ => v = .bl true) E := by
  obtain ⟨s, h⟩ := h
  refine ⟨H, [.fz (.scr ns)], [], rfl, rfl, ⟨Same.refl _, .put (f := []) (.fz (.scr hS)) .nil, List.nodup_nil, fun a ha => by simp at ha⟩, ?_⟩
  rw [h]
  intro F' H' v f' st ok
  have r := ok.rep
  cases r with
  | put q r =>
    cases q with
    | fz q => cases q; rfl
end Mn

set_option Elab.async false
set_option linter.all false
set_option maxRecDepth 100000
set_option maxHeartbeats 4000000
/-! enumerate(tuple) -/
namespace Mn
open PySem PySem.Spec PyProof.Rows L2
theorem meets_enumT (l : Addr) (items : Array Value) :
    Meets (Builtin.«enumerate.__new__» ⟨[.type "enumerate", .ref l], []⟩) (fun _ R s => s.heap.IsTuple l items ∧
      R (.ok (.ret (.ref (s.heap.push { cls := .type "tuple_iterator", data := .fields #[.ref l, .int 0 0] }).objs.size)))
        { s with heap := (s.heap.push { cls := .type "tuple_iterator", data := .fields #[.ref l, .int 0 0] }).push { cls := .type "enumerate", data := .fields #[.none, .bool false, .ref s.heap.objs.size, rawInt 0, .none, .none] } }) :=
  .of_wp fun prog w A R s h => by
    obtain ⟨hp, g, d, tk, os⟩ := s; obtain ⟨hl, h⟩ := h
    have hsub := sub_enumerate
    have hL : Heap.IsTuple (Shared.heap ⟨hp, g, d, tk, os⟩) l items := hl
    wp_walk using wpAny_pyIter_tuple hL
    refine wpAny_stack_any fun st => wpAny_pure ?_
    split
    · rename_i c _ _ _ _ _
      cases (c == Value.type "enumerate")
      · wp_walk using wpAny_pyIter_tuple hL
        exact ⟨_, rfl, h⟩
      · wp_walk using wpAny_pyIter_tuple hL
        exact ⟨_, rfl, h⟩
    · wp_walk using wpAny_pyIter_tuple hL
      exact ⟨_, rfl, h⟩
section
variable {prog : Program} {w : World} {A : Around} {E : Value → Shared → Prop} {s : Shared}
theorem call_enumT {l : Addr} {items : Array Value} {Q : Value → Shared → Prop} (hL : s.heap.IsTuple l items)
    (h : ∀ h', IsEnum h' (s.heap.objs.size + 1) s.heap.objs.size 0 .none → h'.IsTupleIter s.heap.objs.size l 0 → h'.objs.size = s.heap.objs.size + 2 →
      (∀ b o, s.heap.get? b = some o → h'.get? b = some o) → Q (.ref (s.heap.objs.size + 1)) { s with heap := h' }) :
    wpAny (model prog w) A (call (.type "enumerate") [.ref l]) Q E s := by
  refine callType_new F.called_enumerate (by decide) (F.typeCall_enumerate_1 _) (F.newCall_enumerate_1 _) (fun obj => F.args_object_init_2 obj _) F.entry_enumerate_new
    (meets_enumT l items) ⟨hL, ?_⟩
  have hz : (s.heap.push { cls := .type "tuple_iterator", data := .fields #[.ref l, .int 0 0] }).objs.size = s.heap.objs.size + 1 := Heap.size_push ..
  show _ ∧ _
  rw [hz]
  have he : IsEnum ((s.heap.push { cls := .type "tuple_iterator", data := .fields #[.ref l, .int 0 0] }).push
      { cls := .type "enumerate", data := .fields #[.none, .bool false, .ref s.heap.objs.size, rawInt 0, .none, .none] }) (s.heap.objs.size + 1) s.heap.objs.size 0 .none := by
    have := Heap.get?_push_size (s.heap.push { cls := .type "tuple_iterator", data := .fields #[.ref l, .int 0 0] })
      (o := { cls := .type "enumerate", data := .fields #[.none, .bool false, .ref s.heap.objs.size, rawInt 0, .none, .none] }) rfl
    rw [hz] at this; exact this
  refine ⟨⟨_, he, rfl⟩, h _ he ⟨_, Heap.get?_push_of_some _ (Heap.get?_push_size _ rfl), rfl, rfl⟩ (by rw [Heap.size_push, hz]) fun b o x => Heap.get?_push_of_some _ (Heap.get?_push_of_some _ x)⟩
end
section
variable {prog : Program} {w : World} {A : Around} {E : Value → Shared → Prop} {s : Shared}
theorem pyNext_enumT_end {e it l : Addr} {i : Nat} {items : Array Value} {old : Value} {Q : Option Value → Shared → Prop} (hh : A.handled = none)
    (he : IsEnum s.heap e it i old) (hit : s.heap.IsTupleIter it l i) (hl : s.heap.IsTuple l items) (hx : items[i]? = none)
    (hQ : ∀ h', Heap.ExtBut it s.heap h' → Q none { s with heap := h' }) : wpAny (model prog w) A (pyNext (.ref e)) Q E s := by
  have hT : s.TypeIs (.ref e) "enumerate" := ⟨_, he, rfl⟩
  unfold pyNext
  refine wpAny_bind (wpAny_attempt (wpAny_callSpecial?_slot (name := Str.ofString "__next__") hT F.slot_enumerate_next
    (wpAny_call_entry F.slot_enumerate_next hT F.entry_enumerate_next ?_ (F.args_enumerate_next_1 _))))
  show wpAny _ _ (field (.ref e) 2 >>= _) _ _ _
  refine wpAny_bind (wpAny_field he rfl (x := .ref it) rfl ?_)
  refine wpAny_bind (wpAny_nextOf_tuple_end hh hit hl hx fun h' x he' hx' => ?_)
  obtain ⟨o, ho, hc⟩ := hx'
  refine wpAny_bind (wpAny_isInstance (T := "StopIteration") (b := true) ⟨o, ho, hc⟩ isSubtype_stop ?_)
  exact wpAny_pure (hQ _ he')
end
/-- the tuple at a, each item in a new pair -/
def IteT (K : PySem.W.Frag) (a : Addr) : It :=
  ⟨fun i H => ∃ (xs : List V) (x : V), SqT K H a xs ∧ xs[i]? = some x, fun i H v H' => ∃ T x, v = .ref T ∧ H T = none ∧ H' = upd H T (.tup [.int (i : Nat), x]) ∧ ∀ xs, SqT K H a xs → xs[i]? = some x, fun i H => ∃ xs : List V, SqT K H a xs ∧ xs.length ≤ i⟩
theorem turn_enumT {P : Program} {w : World} {K : PySem.W.Frag} {elts : List Expr} {kk : Nat} {tpos : Pos} (a e it : Addr) :
    Turn P w K (.Tuple elts kk tpos) (IteT K a) [e, it] e (fun i h => (∃ old, IsEnum h e it ((i : Nat) : Int) old) ∧ h.IsTupleIter it a i ∧ e ≠ it ∧ e ≠ a ∧ a ≠ it) where
  mem := by simp
  obj := fun i h st b hb => by
    obtain ⟨⟨old, he⟩, ⟨o, ho, hc, hd⟩, _⟩ := st
    have e' : b = e ∨ b = it := by simpa using hb
    rcases e' with z | z
    · rw [z]; exact ⟨_, he, fun v q => nomatch q⟩
    · rw [z]; exact ⟨o, ho, fun v q => by rw [hd] at q; cases q⟩
  keep := fun i h h' st k => let ⟨⟨old, he⟩, hi, hne⟩ := st; ⟨⟨old, k e (by simp) _ he⟩, hi.at fun o q => k it (by simp) o q, hne⟩
  item := by
    intro X hP hw hK hc i pins s σ H E I hf st hg
    subst hP hw hK
    obtain ⟨⟨old, he⟩, hit, hne, hea, hai⟩ := st
    obtain ⟨xs, x, hq, hx⟩ := hg
    obtain ⟨its, rv, p, hz⟩ := I.tuple hq
    obtain ⟨u, hu, ru⟩ := rv.get hx
    have hel : e < s.heap.objs.size := Heap.lt_size he
    have hil : it < s.heap.objs.size := by obtain ⟨_, q, _⟩ := hit; exact Heap.lt_size q
    have hlt : i < its.toArray.size := by
      have := rv.length
      have h2 : i < its.length := (List.getElem?_eq_some_iff.mp hu).1
      simpa using h2
    refine wpAny_pyNext_enum_itemD (Draws.tuple (prog := X.prog) (w := X.w) (A := X.A.in1) (show X.A.in1.handled = none from I.ok.hd hc) it a hai its.toArray) he ⟨hit, p⟩ hlt hne (by simp [hne, hea]) fun y h' tk hy ho hit' hT hsz hk => ?_
    obtain rfl : y = u := by
      have hy : its.toArray[i]? = some y := hy
      simp at hy
      rw [hu] at hy
      exact (Option.some.inj hy).symm
    obtain ⟨hit', _⟩ := hit'
    refine ⟨_, rfl, wpAny_letOwnedTupleGo_enum (s := { s with heap := h', toks := tk + 1 }) ho fun h'' he' sb => ?_⟩
    have hT2 : h''.get? s.heap.objs.size = some { cls := .type "tuple", data := .seq #[.int i tk, y] } := (sb.2 _ (Nat.ne_of_gt hel)).trans hT
    have new : ObjOk X.prog X.w (upd H s.heap.objs.size (.tup [.int (i : Nat), x])) h'' s.heap.objs.size (.tup [.int (i : Nat), x]) :=
      ⟨by show 2 ≤ sizeLine; decide, [.int i tk, y], .cons ⟨_, rfl⟩ (.cons ru .nil), ⟨_, hT2, rfl, _, rfl⟩⟩
    have I1 : Inv X pins σ (upd H s.heap.objs.size (.tup [.int (i : Nat), x])) { s with heap := h'', toks := tk + 1 } :=
      I.turnedNew (t' := tk + 1) (ch := [e, it]) (fun b ob hb q => (sb.2 b (fun z => hb (by simp [z]))).trans (hk b ob (fun z => hb (by simp [z])) (fun z => hb (by simp [z])) q)) hf (Nat.le_refl _) new
    refine ⟨.ref s.heap.objs.size, _, I1, rfl, ⟨_, x, rfl, I.hok.fresh (Nat.le_refl _), rfl, fun ys hy => by rw [I.tuple_inj hy hq]; exact hx⟩, ⟨⟨y, ?_⟩, hit'.at fun o q => (sb.2 it (Ne.symm hne)).trans q, hne, hea, hai⟩, fun b hb => ?_⟩
    · have e1 : ((i + 1 : Nat) : Int) = (i : Int) + 1 := by omega
      rw [e1]; exact he'
    · have hb' : b < s.heap.objs.size := by
        have e' : b = e ∨ b = it := by simpa using hb
        rcases e' with z | z
        · rw [z]; exact hel
        · rw [z]; exact hil
      rw [upd_ne (Nat.ne_of_lt hb')]
      exact (hf b hb).1
  done := by
    intro X hP hw hK hc i pins s σ H E I hf st hg
    subst hP hw hK
    obtain ⟨⟨old, he⟩, hit, hne, hea, hai⟩ := st
    obtain ⟨xs, hq, hx⟩ := hg
    obtain ⟨its, rv, p, hz⟩ := I.tuple hq
    obtain ⟨f0, f1, f2, f3, f4, f5⟩ := hf it (by simp)
    have hl := rv.length
    exact pyNext_enumT_end (I.ok.hd hc) he hit p (by simp; omega) fun h' eb => ⟨rfl, I.turned (t' := s.toks) (fun b o hb q => eb b o hb q) f0 f1 f3 f4 f5⟩
  self := fun A i s Q E st h => let ⟨⟨_, he⟩, _⟩ := st; wpAny_pyIter_enum he h
end Mn

set_option Elab.async false
set_option linter.all false
set_option maxRecDepth 100000
set_option maxHeartbeats 4000000
/-! enumerate, extend by a tuple, list(range), dict(..) -/
namespace Mn
open PySem PySem.Spec PyProof.Rows L2
/-- enumerate of a list or a tuple -/
def enuP (ds : List D) : List D := ds.zipIdx.map fun p => D.tup [.int (p.2 : Int), p.1]
def enumD : List O → Option (List D)
  | [a] => match a.toD with
    | .tup ds => some (enuP ds)
    | _ => none
  | _ => none
theorem enuP_len (ds : List D) : (enuP ds).length = ds.length := by simp [enuP]
theorem enuP_at (ds : List D) (i : Nat) (d : D) (h : ds[i]? = some d) : (enuP ds)[i]? = some (.tup [.int (i : Int), d]) := by
  simp [enuP, List.getElem?_zipIdx, h]
def iEnumT (K : PySem.W.Frag) (ta : TA) : TI := fun σ H R => ta σ H fun vs H1 => ∃ a xs, vs = [.ref a] ∧ SqT K H1 a xs ∧ R (IteT K a) H1
theorem pi_enumT {X : Cx} {e : Expr} {ta : TA} {p pos tpos : Pos} {elts : List Expr} {kk : Nat} (hg : Gl X "enumerate") (hm : X.mg "enumerate" = none) (ha : PA X [e] ta) (hs : starEach [e] X.env = [(false, eval e X.env)] := by rfl) :
    PI X (.Tuple elts kk tpos) (.Call (.Name "enumerate" p) [e] [] pos) (iEnumT X.K ta) := by
  refine ⟨fun pins s σ H R I h => ?_⟩
  refine Call_ (ld_blt I hg hm boot_enumerate (PyProof.Rows.callWith_type1 (thn (ha.run pos pins s σ H _ I h) fun us s1 ⟨vs, H1, I1, r1, q1⟩ => ?_) hs rfl))
  obtain ⟨a, xs, ex, hq, q⟩ := q1
  subst ex
  cases r1 with
  | cons r rr =>
    cases rr
    cases r
    obtain ⟨its, rv, p', hz⟩ := I1.tuple hq
    have hal : a < s1.heap.objs.size := by obtain ⟨o, ho, _⟩ := id p'; exact Heap.lt_size ho
    refine call_enumT p' fun h' he hit hsz hk => wpAny_pyIter_enum he ?_
    have I2 : Inv X pins σ H1 { s1 with heap := h' } := I1.kept (t' := s1.toks) hk
    refine ⟨s1.heap.objs.size + 1, [s1.heap.objs.size + 1, s1.heap.objs.size], _, _, H1, rfl, I2, turn_enumT a (s1.heap.objs.size + 1) s1.heap.objs.size, ⟨⟨.none, he⟩, hit, Nat.succ_ne_self _, Nat.ne_of_gt (Nat.lt_succ_of_lt hal), Nat.ne_of_lt hal⟩, fun b hb => ?_, q⟩
    have e' : b = s1.heap.objs.size + 1 ∨ b = s1.heap.objs.size := by simpa using hb
    have hle : s1.heap.objs.size ≤ b := by
      rcases e' with z | z
      · rw [z]; exact Nat.le_add_right _ _
      · rw [z]; exact Nat.le_refl _
    exact I1.fpOk hle (I1.hok.fresh hle)
theorem walk_enumT {K : PySem.W.Frag} {a : Addr} {xs : List V} : Walk (IteT K a) xs.length (fun H => SqT K H a xs) (YPair (fun i => some (.int (i : Nat))) (fun i => xs[i]?)) := by
  refine ⟨fun i _ hi q => ⟨xs, xs[i], q, by simp [hi]⟩, fun _ q => ⟨xs, q, Nat.le_refl _⟩, fun i H v H' _ q y => ?_⟩
  obtain ⟨T, x, h1, h2, h3, h4⟩ := y
  exact ⟨T, .int (i : Nat), x, h1, h2, h3, rfl, h4 xs q⟩
section
variable {X : Cx} {ad : Nat → Addr} {W : WX} {tg e : Expr} {m : M O}
theorem i_enum {elts : List Expr} {kk : Nat} {p pos tpos : Pos} {ms : M (List O)} (hm : X.mg "enumerate" = none) (ha : SA X ad W [e] ms) (hg : Gl X "enumerate" := by rfl)
    (hs : starEach [e] X.env = [(false, eval e X.env)] := by rfl) :
    SI X ad W (.Tuple elts kk tpos) (.Call (.Name "enumerate" p) [e] [] pos) (iArgs enumD ms) := by
  obtain ⟨ta, pa, qa⟩ := ha.ex
  refine ⟨_, pi_enumT hg hm pa hs, args_core (es := [e]) (R0 := fun R vs H1 => ∃ a xs, vs = [.ref a] ∧ SqT X.K H1 a xs ∧ R (IteT X.K a) H1) qa fun F H os vs E σ f ds R ok hl hg q => ?_⟩
  obtain ⟨F1, f1, s1, o1, r1⟩ := Ok.freezeL hl.symm ok
  unfold enumD at hg
  split at hg
  · next x =>
    simp only [O.toDs] at r1
    match vs, hl, r1 with
    | [v], hl, .cons i1 .nil =>
      split at hg
      · next xs h1 =>
        cases hg
        rw [h1] at i1
        cases i1 with
        | @tup a _ va ha ra =>
          refine ⟨a, va, rfl, Same.sqT o1.sub ha, q F1 H f1 _ s1 o1 (wk_pair (walk_enumT (K := X.K) (a := a) (xs := va)) ((enuP_len xs).trans ra.length) (fun F2 H2 s2 s3 => Same.sqT s3 (Same.sqT s2 ha)) fun i x y e1 e2 => ?_)⟩
          obtain ⟨d, g1, g2⟩ := ra.getV e2
          cases e1
          exact ⟨_, d, enuP_at xs i d g1, .int _, g2⟩
      · cases hg
  · cases hg
end
end Mn

set_option Elab.async false
set_option linter.all false
set_option maxRecDepth 100000
set_option maxHeartbeats 4000000
/-! extend by a tuple -/
namespace Mn
open PySem PySem.Spec PyProof.Rows L2
set_option maxRecDepth 100000 in
theorem meets_extendT (l : Addr) (items : Array Value) (n : Nat) (b : Addr) (items2 : Array Value) (hs0 : ¬(!items.isEmpty && Builtin.List.listTooLong (items.size + items2.size)) = true) (hs1 : items.size ≤ sizeLine) (hs2 : items.size + items2.size ≤ sizeLine + 1) :
    Meets (Builtin.«list.extend» ⟨[.ref l, .ref b], []⟩) (fun _ R s => s.heap.get? l = some { cls := .type "list", dict := none, data := .seq items n, slots := #[] } ∧ s.heap.IsTuple b items2 ∧ R (.ok (.ret Value.none)) { s with heap := s.heap.update l (Obj.mapSeq fun x => x ++ items2), toks := s.toks }) :=
  .of_wp fun prog w A R s h => by
    obtain ⟨hp, g, d, tk, os⟩ := s
    obtain ⟨hl, hb, h⟩ := h
    have f1 := AutoSeq1.idx_int; have f2 := AutoSeq1.sub_tuple_tuple; have f3 := AutoSeq1.sub_list_list; have f4 := AutoSeq1.sub_tuple_list; have f5 := AutoSeq1.sub_list_tuple
    have hz' : (items ++ items2).size ≤ sizeLine + 1 := by rw [Array.size_append]; exact hs2
    obtain ⟨⟨c, dct, dt, sl⟩, hb, hc, n2, hd⟩ := hb
    replace hc : c = .type "tuple" := hc
    replace hd : dt = .seq items2 n2 := hd
    subst hc hd
    have hb : hp.get? b = some { cls := .type "tuple", dict := dct, data := .seq items2 n2, slots := sl } := hb
    wp_walk using (wpAny_updateSeq hl rfl (hz := hs1) (_hz' := hz')), AutoSeq1.wpAny_loadPart' hl, AutoSeq1.wpAny_loadPart' hb
    exact ⟨_, rfl, h⟩
def rExtendA (K : PySem.W.Frag) : V → List V → Hp → VK → Prop := fun x vs H Q => ∃ l b xs zs, x = .ref l ∧ vs = [.ref b] ∧ H l = some (.lst xs) ∧ (H b = some (.lst zs) ∨ SqT K H b zs) ∧ xs.length + zs.length ≤ sizeLine ∧ Q .non (upd H l (.lst (xs ++ zs)))
theorem mt_extendA {X : Cx} : MtM X "list.extend" (rExtendA X.K) := by
  intro pins s σ H x vs v us Q I rx rv h
  obtain ⟨l, b, xs, zs, rfl, rfl, hH, hB, hz, q⟩ := h
  rcases hB with hB | hB
  · exact mt_extend pins s σ H _ _ v us Q I rx rv ⟨l, b, xs, zs, rfl, rfl, hH, hB, hz, q⟩
  cases rx
  obtain ⟨u, rfl, ru⟩ := rv.one
  cases ru
  obtain ⟨z, its, n, r, hl, e⟩ := I.lstM hH
  obtain ⟨its2, r2, e2, z2⟩ := I.tuple hB
  have hl2 := r2.length
  have hsz : its.toArray.size + its2.toArray.size ≤ sizeLine := by rw [List.size_toArray, List.size_toArray]; omega
  have hlong : ¬ (!its.toArray.isEmpty && Builtin.List.listTooLong (its.toArray.size + its2.toArray.size)) = true := by
    rw [notLongL hsz, Bool.and_false]
    exact Bool.false_ne_true
  refine call_meets F.slot_list_extend ⟨_, e, rfl⟩ F.entry_list_extend (F.args_list_extend_2 _ _)
    (meets_extendT l its.toArray n b its2.toArray hlong (by rw [List.size_toArray]; omega) (by omega)) ⟨e, e2, ?_⟩
  refine ⟨.non, _, I.lset (its' := its ++ its2) hH e (by simp) (r.append r2) ?_, rfl, q⟩
  rw [List.length_append]
  omega
def seqD : D → Option (List D)
  | .lst ds => some ds
  | .tup ds => some ds
  | _ => none
def uExtendA : O → List O → Option (O × O)
  | .lst os, [y] => match seqD y.toD with
    | some ds => if os.length + ds.length ≤ sizeLine then some (.fz .non, .lst (os ++ ds.map O.fz)) else none
    | none => none
  | _, _ => none
section
variable {X : Cx} {ad : Nat → Addr}
theorem k_extendA : MPrm X ad (rExtendA X.K) uExtendA := by
  refine ⟨fun F H o xs x vx E σ f res o' Q ok hl hu q => ?_⟩
  unfold uExtendA at hu
  split at hu
  · next os y =>
    split at hu
    · next ds hds =>
      split at hu
      · next hh =>
        cases hu
        match vx, hl, ok with
        | [vy], hl, ok =>
          obtain ⟨g0, ok0, ms0, k0⟩ := Ok.frame' (P := [some (.lst os)]) (PS := [some x]) rfl ok
          obtain ⟨F1, f1, s1, o1, hm1⟩ := Ok.freeze (o := y) (v := vy) ok0
          obtain ⟨g2, o2, s2⟩ := k0 s1 o1
          generalize y.toD = dy at o2 hds
          obtain ⟨a, vs, fo, fx, f2, rfl, rfl, h, rl, rx, rE⟩ := Ok.lstParts (xs := [.fz dy]) (vx := [vy]) o2 rfl
          have el := rl.length
          cases rx with
          | @cons _ _ _ _ fi fy ri rx =>
            cases rx
            cases ri with
            | fz ri =>
              have fin : ∀ (zs : List V), IsL X.K ad F1 ds zs → ((.fz .non : O), O.lst (os ++ ds.map O.fz)) = ((.fz .non : O), O.lst (os ++ ds.map O.fz)) → Q .non (upd H a (.lst (vs ++ zs))) := fun zs rb _ => by
                have w := Ok.write (n := .lst (vs ++ zs)) (o := .lst os) (o' := .lst (os ++ ds.map O.fz)) (res := .fz .non) (v := .non) (fr := []) (fo' := fo ++ []) o2.sub o2.nd o2.nf (by rw [h]; simp) rE (rl.tracked (.cons (.fz ri) .nil)) (.fz .non)
                  (by simpa using nodup_mid o2.nd) (fun z hz => by simpa using hz) fun H' kp ha => .lst ha ((rl.append (RepL.ofIs rb)).mono (Same.refl _) fun z hz u e => kp z u (not_a o2.nd z (by simpa using hz)) e)
                exact q _ _ _ _ (s2.trans w.1) w.2
              cases ri with
              | @lst b _ zs hb rb =>
                cases hds
                have eb := rb.length
                exact ⟨a, b, vs, zs, rfl, rfl, h, .inl (o2.sub _ _ hb), by omega, fin zs rb rfl⟩
              | @tup b _ zs hb rb =>
                cases hds
                have eb := rb.length
                exact ⟨a, b, vs, zs, rfl, rfl, h, .inr (Same.sqT o2.sub hb), by omega, fin zs rb rfl⟩
              | _ => cases hds
      · cases hu
    · cases hu
  · cases hu
end
end Mn

set_option Elab.async false
set_option linter.all false
set_option maxRecDepth 100000
set_option maxHeartbeats 4000000
/-! comprehensions of two clauses -/
namespace Mn
open PySem PySem.Spec PyProof.Rows L2
theorem cIter_wiped {vs : List Nat} {t : Mt} {c : M Bool} {m : M O} : ∀ (ds : List Mn.D) (acc : List O) (E0 : En) (os : List O) (E2 : En), cIter vs t c m ds acc E0 = .ok os E2 → ∃ E3, E2 = Mn.wipeE E3 vs := by
  intro ds
  induction ds with
  | nil => intro acc E0 os E2 h; unfold cIter at h; cases h; exact ⟨E0, rfl⟩
  | cons d ds ih =>
    intro acc E0 os E2 h
    unfold cIter at h
    cases h1 : t (.fz d) E0 with
    | exc _ _ => rw [h1] at h; cases h
    | bad => rw [h1] at h; cases h
    | ok u Ea =>
      rw [h1, only_ok] at h
      cases h2 : c Ea with
      | exc _ _ => rw [h2] at h; cases h
      | bad => rw [h2] at h; cases h
      | ok b Eb =>
        rw [h2, only_ok] at h
        cases b with
        | false => exact ih _ _ _ _ h
        | true =>
          simp only [if_true] at h
          cases h3 : m Eb with
          | exc _ _ => rw [h3] at h; cases h
          | bad => rw [h3] at h; cases h
          | ok o Ec =>
            rw [h3, only_ok] at h
            split at h
            · exact ih _ _ _ _ h
            · cases h
theorem wipeE_wipeE {vs : List Nat} (E : En) : Mn.wipeE (Mn.wipeE E vs) vs = Mn.wipeE E vs := by
  apply List.ext_getElem?
  intro j
  rw [wipeE_get, wipeE_get]
  by_cases hj : j ∈ vs
  · simp only [if_pos hj, Option.map_map]; rfl
  · rw [if_neg hj]
def cIter2 (vs vs1 : List Nat) (t : Mt) (c : M Bool) (mi1 : M (List D)) (t1 : Mt) (c1 : M Bool) (m : M O) : List D → List O → En → R (List O)
  | [], acc, E => .ok acc (wipeE E vs)
  | d :: ds, acc, E => (t (.fz d) E).only fun _ E1 => (c E1).only fun b E2 => if b then (mi1 E2).only fun ds1 E3 => (cIter vs1 t1 c1 m ds1 acc (wipeE E3 vs1)).only fun acc' E4 => cIter2 vs vs1 t c mi1 t1 c1 m ds acc' (wipeE E4 vs) else cIter2 vs vs1 t c mi1 t1 c1 m ds acc (wipeE E2 vs)
def mComp2 (vs vs1 : List Nat) (t : Mt) (mi : M (List D)) (c : M Bool) (mi1 : M (List D)) (t1 : Mt) (c1 : M Bool) (m : M O) : M O := fun E => (mi E).bind fun ds E1 => (cIter2 vs vs1 t c mi1 t1 c1 m ds [] (wipeE E1 vs)).only fun os E2 => .ok (.lst os) E2
theorem cIter2_wiped {vs vs1 : List Nat} {t : Mt} {c : M Bool} {mi1 : M (List D)} {t1 : Mt} {c1 : M Bool} {m : M O} : ∀ (ds : List Mn.D) (acc : List O) (E0 : En) (os : List O) (E2 : En), cIter2 vs vs1 t c mi1 t1 c1 m ds acc E0 = .ok os E2 → ∃ E3, E2 = Mn.wipeE E3 vs := by
  intro ds
  induction ds with
  | nil => intro acc E0 os E2 h; unfold cIter2 at h; cases h; exact ⟨E0, rfl⟩
  | cons d ds ih =>
    intro acc E0 os E2 h
    unfold cIter2 at h
    cases h1 : t (.fz d) E0 with
    | exc _ _ => rw [h1] at h; cases h
    | bad => rw [h1] at h; cases h
    | ok u Ea =>
      rw [h1, only_ok] at h
      cases h2 : c Ea with
      | exc _ _ => rw [h2] at h; cases h
      | bad => rw [h2] at h; cases h
      | ok b Eb =>
        rw [h2, only_ok] at h
        cases b with
        | false => exact ih _ _ _ _ h
        | true =>
          simp only [if_true] at h
          cases h3 : mi1 Eb with
          | exc _ _ => rw [h3] at h; cases h
          | bad => rw [h3] at h; cases h
          | ok o Ec =>
            rw [h3, only_ok] at h
            cases h4 : cIter vs1 t1 c1 m o acc (wipeE Ec vs1) with
            | exc _ _ => rw [h4] at h; cases h
            | bad => rw [h4] at h; cases h
            | ok o2 Ed =>
              rw [h4, only_ok] at h
              exact ih _ _ _ _ h

section
variable {X : Cx} {ad : Nat → Addr} {W : WX} {t : Mt} {c : M Bool} {m : M O} {sl : List Nat}
/-- what is wanted of the rest of a loop that adds to the list at D -/
def PostC (K : PySem.W.Frag) (ad : Nat → Addr) (σw : L2.St) (D : Addr) (Z : Hp → Prop) (F' H' : Hp) (f' : List Addr) (r : R (List O)) : Prop := match r with
  | .ok os E'' => ∀ F'' H'' f'', Step F' H' f' F'' H'' f'' → Ok K ad F'' H'' (some (.lst os) :: E'') (some (.ref D) :: σw) f'' → Z H''
  | _ => False
theorem PostC.step {K : PySem.W.Frag} {σw : L2.St} {D : Addr} {Z : Hp → Prop} {Fa Ha Fb Hb : Hp} {fa fb : List Addr} {r : R (List O)} (p : PostC K ad σw D Z Fa Ha fa r) (s : Step Fa Ha fa Fb Hb fb) : PostC K ad σw D Z Fb Hb fb r := by
  cases r with
  | ok os E'' => exact fun F'' H'' f'' s' o => p F'' H'' f'' (s.trans s') o
  | exc _ _ => exact p
  | bad => exact p
/-- a loop that adds to the list at D -/
theorem iter_core {g : TG} {tt : TT} {te : TE} {vs : List Nat} (hsl : ∀ i ∈ sl, i ∈ vs)
    (qg : ∀ F H E σ f o v Q, Ok X.K ad F H (some o :: E) (some v :: σ) f →
    (match t o E with
      | .ok _ E' => ∀ F' H' σ' f', Step F H f F' H' f' → Ok X.K ad F' H' E' σ' f' → Df sl σ σ' → Q σ' H'
      | .exc c E' => ∀ F' H' f', Step F H f F' H' f' → Ok X.K ad F' H' E' σ f' → W0 (.ref (ad c)) none σ H'
      | .bad => False) → g v σ H Q)
    (qt : ∀ F H E σ f Q, Ok X.K ad F H E σ f → AftT X.K ad W0 F H f σ (c E) Q → tt σ H Q)
    (qe : ∀ F H E σ f Q, Ok X.K ad F H E σ f → Aft X.K ad W0 [] [] F H f σ (m E) Q → te σ H Q)
    {J : It} {ds : List Mn.D} {F1 H1 : Hp} {E1 : En} {σ : L2.St} {f1 : List Addr} {acc0 : List O} {D : Addr} {Z : Hp → Prop} (wk : Wk X.K ad J ds F1)
    (oN : Ok X.K ad F1 H1 (some (.lst acc0) :: Mn.wipeE E1 vs) (some (.ref D) :: L2.wipe σ vs) f1) (p0 : PostC X.K ad (L2.wipe σ vs) D Z F1 H1 f1 (cIter vs t c m ds acc0 (Mn.wipeE E1 vs))) :
    ∃ W : Nat → Nat → Hp → Prop, (∃ m, W 0 m H1) ∧ ∀ i m H, W i m H →
      (J.stop i H ∧ Z H) ∨ (J.go i H ∧ ∃ Nx : Hp → Prop, (∀ H', Nx H' → ∃ m', m' < m ∧ W (i + 1) m' H') ∧ ∀ x H', J.yld i H x H' → g x (L2.wipe σ vs) H' fun σ2 H2 => L2.wipe σ2 vs = L2.wipe σ vs ∧ tt σ2 H2 fun b H3 =>
        if b = true then te σ2 H3 fun y H4 => ∃ acc, H4 D = some (.lst acc) ∧ acc.length < sizeLine ∧ Nx (upd H4 D (.lst (acc ++ [y]))) else Nx H3) := by
  refine ⟨fun i k H' => k = ds.length - i ∧ i ≤ ds.length ∧ ∃ F' E' acc f', Same F1 F' ∧ Ok X.K ad F' H' (some (.lst acc) :: Mn.wipeE E' vs) (some (.ref D) :: L2.wipe σ vs) f' ∧ PostC X.K ad (L2.wipe σ vs) D Z F' H' f' (cIter vs t c m (ds.drop i) acc (Mn.wipeE E' vs)), ⟨ds.length, by simp, Nat.zero_le _, F1, E1, acc0, f1, Same.refl _, oN, by simpa using p0⟩, ?_⟩
  rintro i k H' ⟨rfl, hi, F', E', acc, f', sF, ok', z'⟩
  by_cases hlt : i < ds.length
  · refine .inr ⟨wk.go i F' H' hlt sF ok'.sub, fun H2 => i + 1 ≤ ds.length ∧ ∃ F' E' acc f', Same F1 F' ∧ Ok X.K ad F' H2 (some (.lst acc) :: Mn.wipeE E' vs) (some (.ref D) :: L2.wipe σ vs) f' ∧ PostC X.K ad (L2.wipe σ vs) D Z F' H2 f' (cIter vs t c m (ds.drop (i + 1)) acc (Mn.wipeE E' vs)), fun H2 h => ⟨ds.length - (i + 1), by omega, rfl, h⟩, fun x H3 y => ?_⟩
    obtain ⟨F3, d, hd, s2, h2, sub3, g3, t3, q3⟩ := wk.yld i F' H' x H3 hlt sF ok'.sub y
    have e1 : ds.drop i = d :: ds.drop (i + 1) := by
      rw [List.drop_eq_getElem_cons hlt]
      congr 1
      rw [List.getElem?_eq_getElem hlt] at hd
      exact Option.some.inj hd
    have st3 : Step F' H' f' F3 H3 f' := Step.same s2 h2 g3 t3
    have ok3 : Ok X.K ad F3 H3 (some (.lst acc) :: Mn.wipeE E' vs) (some (.ref D) :: L2.wipe σ vs) f' := ⟨sub3, ok'.rep.mono s2 fun a ha u e => h2 a u e, ok'.nd, fun a ha => by
      obtain ⟨u, e⟩ := ok'.rep.trk a ha
      exact g3 a u e (ok'.nf a ha)⟩
    rw [e1] at z'
    unfold cIter at z'
    obtain ⟨fa, oa, ma, ka⟩ := Ok.frame' (P := [some (.lst acc)]) (PS := [some (.ref D)]) rfl ok3
    refine qg F3 H3 (Mn.wipeE E' vs) (L2.wipe σ vs) fa (.fz d) x _ (oa.dat q3) ?_
    cases ht : t (.fz d) (Mn.wipeE E' vs) with
    | exc c E2 => rw [ht] at z'; exact z'.elim
    | bad => rw [ht] at z'; exact z'.elim
    | ok u E2 =>
      rw [ht, only_ok] at z'
      intro F4 H4 σ4 f4 s4 o4 d4
      obtain ⟨g4, o4b, s4b⟩ := ka s4 o4
      have ew : L2.wipe σ4 vs = L2.wipe σ vs := (wipe_df d4 hsl).trans wipe_wipe
      refine ⟨ew.trans rfl, ?_⟩
      obtain ⟨fb, ob, mb, kb⟩ := Ok.frame' (P := [some (.lst acc)]) (PS := [some (.ref D)]) rfl o4b
      refine qt F4 H4 E2 σ4 fb _ ob ?_
      cases hc : c E2 with
      | exc c E2 => rw [hc] at z'; exact z'.elim
      | bad => rw [hc] at z'; exact z'.elim
      | ok b E3 =>
        rw [hc, only_ok] at z'
        intro F5 H5 f5 s5 o5
        obtain ⟨g5, o5b, s5b⟩ := kb s5 o5
        cases b with
        | false =>
          refine iteF ⟨hlt, ?_⟩
          obtain ⟨fc, oc, mc⟩ := Ok.wipeE vs o5
          have oc' : Ok X.K ad F5 H5 (Mn.wipeE E3 vs) (L2.wipe σ vs) fc := oc.wipeS (by rw [wipe_length, d4.1, wipe_length]) fun j hj => by rw [← ew, wipe_out j hj]
          obtain ⟨g6, o6, s6⟩ := kb (s5.trans (Step.perm mc)) oc'
          exact ⟨F5, E3, acc, g6, sF.trans (s2.trans (s4.f.trans s5.f)), o6, PostC.step z' (st3.trans (s4b.trans s6))⟩
        | true =>
          simp only [if_true] at z'
          refine iteT ?_
          obtain ⟨fd, od, md, kd⟩ := Ok.frame' (P := [some (.lst acc)]) (PS := [some (.ref D)]) rfl o5b
          refine qe F5 H5 E3 σ4 fd _ od ?_
          cases he : m E3 with
          | exc c E2 => rw [he] at z'; exact z'.elim
          | bad => rw [he] at z'; exact z'.elim
          | ok o E4 =>
            rw [he, only_ok] at z'
            intro F6 H6 w f6 s6 o6
            by_cases hz : acc.length < sizeLine
            · rw [if_pos hz] at z'
              obtain ⟨fe, oe, me, ke⟩ := Ok.frame' (P := [some o]) (PS := [some w]) rfl o6
              obtain ⟨ff, of, mf⟩ := Ok.wipeE vs oe
              have of' : Ok X.K ad F6 H6 (Mn.wipeE E4 vs) (L2.wipe σ vs) ff := of.wipeS (by rw [wipe_length, d4.1, wipe_length]) fun j hj => by rw [← ew, wipe_out j hj]
              obtain ⟨g7, o7, s7⟩ := ke (Step.perm mf) of'
              obtain ⟨g8, o8, s8⟩ := kd (s6.trans s7) o7
              obtain ⟨a, vs', fo, fx, f2, ea, rfl, h, rl, rx, rE⟩ := Ok.lstParts (xs := [o]) (vx := [w]) o8 rfl
              have ea : D = a := by cases ea; rfl
              subst ea
              have el := rl.length
              have wr := Ok.write (n := .lst (vs' ++ [w])) (o := .lst acc) (o' := .lst (acc ++ [o])) (res := .fz .non) (v := .non) (fr := []) (fo' := fo ++ fx) o8.sub o8.nd o8.nf (by rw [h]; simp) rE (rl.tracked rx) (.fz .non)
                (by simpa using nodup_mid o8.nd) (fun z hz => by simpa using hz) fun H' kp ha => .lst ha ((rl.append rx).mono (Same.refl _) fun z hz u e => kp z u (not_a o8.nd z hz) e)
              obtain ⟨g9, o9, s9⟩ := wr.2.tl'
              refine ⟨vs', h, by omega, hlt, F6, E4, acc ++ [o], g9, sF.trans (s2.trans (s4.f.trans (s5.f.trans s6.f))), o9, ?_⟩
              exact PostC.step z' (st3.trans (s4b.trans (s5b.trans (s8.trans (wr.1.trans s9)))))
            · rw [if_neg hz] at z'; exact z'.elim
  · have e : i = ds.length := by omega
    subst e
    refine .inl ⟨wk.stop F' H' sF ok'.sub, ?_⟩
    rw [List.drop_length] at z'
    unfold cIter at z'
    rw [wipeE_wipeE] at z'
    exact z' F' H' f' (Step.refl _ _ _) ok'
/-- two clauses -/
theorem comp2_core {wi wi1 : TI} {g g1 : TG} {tt tt1 : TT} {te : TE} {vs vs1 sl1 : List Nat} {mi mi1 : M (List D)} {t1 : Mt} {c1 : M Bool} (hsl : ∀ i ∈ sl, i ∈ vs) (hsl1 : ∀ i ∈ sl1, i ∈ vs1) (hv1 : ∀ i ∈ vs1, i ∈ vs)
    (qi : ∀ F H E σ f R, Ok X.K ad F H E σ f →
    (match mi E with
      | .ok ds E' => ∀ F' H' f' J, Step F H f F' H' f' → Ok X.K ad F' H' E' σ f' → Wk X.K ad J ds F' → R J H'
      | .exc c E' => ∀ F' H' f', Step F H f F' H' f' → Ok X.K ad F' H' E' σ f' → W (.ref (ad c)) none σ H'
      | .bad => False) → wi σ H R)
    (qi1 : ∀ F H E σ f R, Ok X.K ad F H E σ f →
    (match mi1 E with
      | .ok ds E' => ∀ F' H' f' J, Step F H f F' H' f' → Ok X.K ad F' H' E' σ f' → Wk X.K ad J ds F' → R J H'
      | .exc c E' => ∀ F' H' f', Step F H f F' H' f' → Ok X.K ad F' H' E' σ f' → W0 (.ref (ad c)) none σ H'
      | .bad => False) → wi1 σ H R)
    (qg : ∀ F H E σ f o v Q, Ok X.K ad F H (some o :: E) (some v :: σ) f →
    (match t o E with
      | .ok _ E' => ∀ F' H' σ' f', Step F H f F' H' f' → Ok X.K ad F' H' E' σ' f' → Df sl σ σ' → Q σ' H'
      | .exc c E' => ∀ F' H' f', Step F H f F' H' f' → Ok X.K ad F' H' E' σ f' → W0 (.ref (ad c)) none σ H'
      | .bad => False) → g v σ H Q)
    (qg1 : ∀ F H E σ f o v Q, Ok X.K ad F H (some o :: E) (some v :: σ) f →
    (match t1 o E with
      | .ok _ E' => ∀ F' H' σ' f', Step F H f F' H' f' → Ok X.K ad F' H' E' σ' f' → Df sl1 σ σ' → Q σ' H'
      | .exc c E' => ∀ F' H' f', Step F H f F' H' f' → Ok X.K ad F' H' E' σ f' → W0 (.ref (ad c)) none σ H'
      | .bad => False) → g1 v σ H Q)
    (qt : ∀ F H E σ f Q, Ok X.K ad F H E σ f → AftT X.K ad W0 F H f σ (c E) Q → tt σ H Q)
    (qt1 : ∀ F H E σ f Q, Ok X.K ad F H E σ f → AftT X.K ad W0 F H f σ (c1 E) Q → tt1 σ H Q)
    (qe : ∀ F H E σ f Q, Ok X.K ad F H E σ f → Aft X.K ad W0 [] [] F H f σ (m E) Q → te σ H Q) :
    ∀ F H E σ f Q, Ok X.K ad F H E σ f → Aft X.K ad W [] [] F H f σ (mComp2 vs vs1 t mi c mi1 t1 c1 m E) Q → tLc2 wi g tt wi1 g1 tt1 te vs vs1 σ H Q := by
  intro F H E σ f Q ok z
  refine qi F H E σ f _ ok ?_
  unfold mComp2 at z
  cases hm : mi E with
  | exc c E1 => rw [hm] at z; exact fun F' H' f' s o => z F' H' f' s o
  | bad => rw [hm] at z; exact z
  | ok ds E1 =>
    rw [hm, bind_ok] at z
    intro F1 H1 f1 J s1 o1 wk D nD
    obtain ⟨fw, ow, mw⟩ := o1.wipeE vs
    have ow' : Ok X.K ad F1 H1 (Mn.wipeE E1 vs) (L2.wipe σ vs) fw := ow.wipeS (wipe_length _ _) wipe_out
    obtain ⟨sN, oN⟩ := Ok.newLst (os := []) (vs := []) (E := Mn.wipeE E1 vs) (S := L2.wipe σ vs) (P := []) (PS := []) ow' rfl nD
    have fin : ∀ F' H' f' os E'', Step F1 (upd H1 D (.lst [])) (D :: fw) F' H' f' → Ok X.K ad F' H' (some (.lst os) :: Mn.wipeE E'' vs) (some (.ref D) :: L2.wipe σ vs) f' → Ok X.K ad F' H' (some (.lst os) :: Mn.wipeE E'' vs) (some (.ref D) :: σ) f' := fun F' H' f' os E'' s o => by
      refine ⟨o.sub, o.rep.swapS (by simp [wipe_length]) fun j x e => ?_, o.nd, o.nf⟩
      cases j with
      | zero => rfl
      | succ j =>
        have := wipeE_none (E := E'') (vs := vs) (j := j) (by simpa using e)
        simpa using (wipe_out (σ := σ) j this).symm
    have p0 : PostC X.K ad (L2.wipe σ vs) D (fun H => Q (.ref D) H) F1 (upd H1 D (.lst [])) (D :: fw) (cIter2 vs vs1 t c mi1 t1 c1 m ds [] (Mn.wipeE E1 vs)) := by
      cases hc : cIter2 vs vs1 t c mi1 t1 c1 m ds [] (Mn.wipeE E1 vs) with
      | exc c E2 => rw [hc] at z; exact z
      | bad => rw [hc] at z; exact z
      | ok os E2 =>
        rw [hc, only_ok] at z
        intro F'' H'' f'' s o
        obtain ⟨E3, rfl⟩ := cIter2_wiped _ _ _ _ _ hc
        exact z F'' H'' (.ref D) f'' (s1.trans ((Step.perm mw).trans (sN.trans s))) (fin F'' H'' f'' os E3 s o)
    refine ⟨fun i k H' => k = ds.length - i ∧ i ≤ ds.length ∧ ∃ F' E' acc f', Same F1 F' ∧ Ok X.K ad F' H' (some (.lst acc) :: Mn.wipeE E' vs) (some (.ref D) :: L2.wipe σ vs) f' ∧ PostC X.K ad (L2.wipe σ vs) D (fun H => Q (.ref D) H) F' H' f' (cIter2 vs vs1 t c mi1 t1 c1 m (ds.drop i) acc (Mn.wipeE E' vs)), ⟨ds.length, by simp, Nat.zero_le _, F1, E1, [], D :: fw, Same.refl _, oN, by simpa using p0⟩, ?_⟩
    rintro i k H' ⟨rfl, hi, F', E', acc, f', sF, ok', z'⟩
    by_cases hlt : i < ds.length
    · refine .inr ⟨wk.go i F' H' hlt sF ok'.sub, fun H2 => i + 1 ≤ ds.length ∧ ∃ F' E' acc f', Same F1 F' ∧ Ok X.K ad F' H2 (some (.lst acc) :: Mn.wipeE E' vs) (some (.ref D) :: L2.wipe σ vs) f' ∧ PostC X.K ad (L2.wipe σ vs) D (fun H => Q (.ref D) H) F' H2 f' (cIter2 vs vs1 t c mi1 t1 c1 m (ds.drop (i + 1)) acc (Mn.wipeE E' vs)), fun H2 h => ⟨ds.length - (i + 1), by omega, rfl, h⟩, fun x H3 y => ?_⟩
      obtain ⟨F3, d, hd, s2, h2, sub3, g3, t3, q3⟩ := wk.yld i F' H' x H3 hlt sF ok'.sub y
      have e1 : ds.drop i = d :: ds.drop (i + 1) := by
        rw [List.drop_eq_getElem_cons hlt]
        congr 1
        rw [List.getElem?_eq_getElem hlt] at hd
        exact Option.some.inj hd
      have st3 : Step F' H' f' F3 H3 f' := Step.same s2 h2 g3 t3
      have ok3 : Ok X.K ad F3 H3 (some (.lst acc) :: Mn.wipeE E' vs) (some (.ref D) :: L2.wipe σ vs) f' := ⟨sub3, ok'.rep.mono s2 fun a ha u e => h2 a u e, ok'.nd, fun a ha => by
        obtain ⟨u, e⟩ := ok'.rep.trk a ha
        exact g3 a u e (ok'.nf a ha)⟩
      rw [e1] at z'
      unfold cIter2 at z'
      obtain ⟨fa, oa, ma, ka⟩ := Ok.frame' (P := [some (.lst acc)]) (PS := [some (.ref D)]) rfl ok3
      refine qg F3 H3 (Mn.wipeE E' vs) (L2.wipe σ vs) fa (.fz d) x _ (oa.dat q3) ?_
      cases ht : t (.fz d) (Mn.wipeE E' vs) with
      | exc c E2 => rw [ht] at z'; exact z'.elim
      | bad => rw [ht] at z'; exact z'.elim
      | ok u E2 =>
        rw [ht, only_ok] at z'
        intro F4 H4 σ4 f4 s4 o4 d4
        obtain ⟨g4, o4b, s4b⟩ := ka s4 o4
        have ew : L2.wipe σ4 vs = L2.wipe σ vs := (wipe_df d4 hsl).trans wipe_wipe
        refine ⟨ew, ?_⟩
        obtain ⟨fb, ob, mb, kb⟩ := Ok.frame' (P := [some (.lst acc)]) (PS := [some (.ref D)]) rfl o4b
        refine qt F4 H4 E2 σ4 fb _ ob ?_
        cases hc : c E2 with
        | exc c E2 => rw [hc] at z'; exact z'.elim
        | bad => rw [hc] at z'; exact z'.elim
        | ok b E3 =>
          rw [hc, only_ok] at z'
          intro F5 H5 f5 s5 o5
          obtain ⟨g5, o5b, s5b⟩ := kb s5 o5
          cases b with
          | false =>
            refine iteF ⟨hlt, ?_⟩
            obtain ⟨fc, oc, mc⟩ := Ok.wipeE vs o5
            have oc' : Ok X.K ad F5 H5 (Mn.wipeE E3 vs) (L2.wipe σ vs) fc := oc.wipeS (by rw [wipe_length, d4.1, wipe_length]) fun j hj => by rw [← ew, wipe_out j hj]
            obtain ⟨g6, o6, s6⟩ := kb (s5.trans (Step.perm mc)) oc'
            exact ⟨F5, E3, acc, g6, sF.trans (s2.trans (s4.f.trans s5.f)), o6, PostC.step z' (st3.trans (s4b.trans s6))⟩
          | true =>
            simp only [if_true] at z'
            refine iteT ?_
            obtain ⟨fd, od, md, kd⟩ := Ok.frame' (P := [some (.lst acc)]) (PS := [some (.ref D)]) rfl o5b
            refine qi1 F5 H5 E3 σ4 fd _ od ?_
            cases he : mi1 E3 with
            | exc c E2 => rw [he] at z'; exact z'.elim
            | bad => rw [he] at z'; exact z'.elim
            | ok ds1 E4 =>
              rw [he, only_ok] at z'
              intro F6 H6 f6 J1 s6 o6 wk1
              obtain ⟨ff, of, mf⟩ := Ok.wipeE vs1 o6
              have of' : Ok X.K ad F6 H6 (Mn.wipeE E4 vs1) (L2.wipe σ4 vs1) ff := of.wipeS (wipe_length _ _) wipe_out
              have sw : Step F5 H5 fd F6 H6 ff := s6.trans (Step.perm mf)
              -- beside the list
              have r5 := o5b.rep
              obtain ⟨g8, o8', s8⟩ := kd sw of'
              refine iter_core (acc0 := acc) (E1 := E4) hsl1 qg1 qt1 qe wk1 o8' ?_
              cases hc4 : cIter vs1 t1 c1 m ds1 acc (Mn.wipeE E4 vs1) with
              | exc c E2 => rw [hc4] at z'; exact z'
              | bad => rw [hc4] at z'; exact z'
              | ok acc' E5 =>
                rw [hc4, only_ok] at z'
                intro F7 H7 f7 s7 o7
                refine ⟨hlt, ?_⟩
                obtain ⟨fh, oh, mh, kh⟩ := Ok.frame' (P := [some (.lst acc')]) (PS := [some (.ref D)]) rfl o7
                obtain ⟨fj, oj, mj⟩ := Ok.wipeE vs oh
                have oj' : Ok X.K ad F7 H7 (Mn.wipeE E5 vs) (L2.wipe σ vs) fj := oj.wipeS (by rw [wipe_length, wipe_length, d4.1, wipe_length]) fun j hj => by
                  rw [← ew, wipe_out j hj, wipe_out j fun q => hj (hv1 j q)]
                obtain ⟨g9, o9, s9⟩ := kh (Step.perm mj) oj'
                exact ⟨F7, E5, acc', g9, sF.trans (s2.trans (s4.f.trans (s5.f.trans (s6.f.trans s7.f)))), o9, PostC.step z' (st3.trans (s4b.trans (s5b.trans (s8.trans (s7.trans s9)))))⟩
    · have e : i = ds.length := by omega
      subst e
      refine .inl ⟨wk.stop F' H' sF ok'.sub, ?_⟩
      rw [List.drop_length] at z'
      unfold cIter2 at z'
      rw [wipeE_wipeE] at z'
      exact z' F' H' f' (Step.refl _ _ _) ok'
def tiOf (K : PySem.W.Frag) (ad : Nat → Addr) (mi : M (List D)) : TI := fun σ H R => ∃ F E f, Ok K ad F H E σ f ∧
    match mi E with
      | .ok ds E' => ∀ F' H' f' J, Step F H f F' H' f' → Ok K ad F' H' E' σ f' → Wk K ad J ds F' → R J H'
      | .exc c E' => ∀ F' H' f', Step F H f F' H' f' → Ok K ad F' H' E' σ f' → W0 (.ref (ad c)) none σ H'
      | .bad => False
theorem SI.canon {X : Cx} {tg iter : Expr} {mi : M (List D)} (h : SI X ad W0 tg iter mi) : PI X tg iter (tiOf X.K ad mi) := by
  obtain ⟨wi, p, q⟩ := h.ex
  exact ⟨fun pins s σ H R I ⟨F, E, f, ok, a⟩ => p.run pins s σ H R I (q F H E σ f R ok a)⟩
variable {elt tg iter tg1 iter1 : Expr} {ifs ifs1 : List Expr} {scope : Scope} {pos : Pos} {mi mi1 : M (List D)} {t1 : Mt} {c1 : M Bool} {sl1 : List Nat}
theorem s_comp2 (hc : X.calm = true) (hN : X.N.Nodup) (own : List (Str × Nat)) (vs1 : List Nat) (hi : SI X ad W tg iter mi)
    (hg : ∀ (s : Shared) (H : Hp) (C : Addr) (cl : List (Str × Addr)) (fp : List Addr), SG (X.blk s H scope (compEnvC scope cl C X.env) fp) ad W0 sl tg t)
    (ht : ∀ (s : Shared) (H : Hp) (C : Addr) (cl : List (Str × Addr)) (fp : List Addr), SC (X.blk s H scope (compEnvC scope cl C X.env) fp) ad ifs c)
    (hi1 : ∀ (s : Shared) (H : Hp) (C : Addr) (cl : List (Str × Addr)) (fp : List Addr), SI (X.blk s H scope (compEnvC scope cl C X.env) fp) ad W0 tg1 iter1 mi1)
    (hg1 : ∀ (s : Shared) (H : Hp) (C : Addr) (cl : List (Str × Addr)) (fp : List Addr), SG (X.blk s H scope (compEnvC scope cl C X.env) fp) ad W0 sl1 tg1 t1)
    (ht1 : ∀ (s : Shared) (H : Hp) (C : Addr) (cl : List (Str × Addr)) (fp : List Addr), SC (X.blk s H scope (compEnvC scope cl C X.env) fp) ad ifs1 c1)
    (he : ∀ (s : Shared) (H : Hp) (C : Addr) (cl : List (Str × Addr)) (fp : List Addr), SE (X.blk s H scope (compEnvC scope cl C X.env) fp) ad W0 elt m)
    (ok : BlkOk X.N X.env.scope scope own) (hsl : ∀ i ∈ sl, i ∈ own.map (·.2) := by decide) (hsl1 : ∀ i ∈ sl1, i ∈ vs1 := by decide) (hv1 : ∀ i ∈ vs1, i ∈ own.map (·.2) := by decide)
    (hs : ∀ x, foldedSetIterable iter X.env x = pure x := by intro _; rfl) (hs1 : ∀ env x, foldedSetIterable iter1 env x = pure x := by intro _ _; rfl) :
    SE X ad W (.ListComp elt [⟨tg, iter, ifs, 0⟩, ⟨tg1, iter1, ifs1, 0⟩] scope pos) (mComp2 (own.map (·.2)) vs1 t mi c mi1 t1 c1 m) := by
  obtain ⟨wi, pi, qi⟩ := hi.ex
  refine ⟨_, pe_lc2 (wi1 := tiOf X.K ad mi1) (g := tgOf X.K ad W0 sl t) (g1 := tgOf X.K ad W0 sl1 t1) (tt := ttOf X.K ad c) (tt1 := ttOf X.K ad c1) (te := teOf X.K ad W0 m) hc hN pi ok hv1 (fun s H C cl fp => (hg s H C cl fp).canon) (fun s H C cl fp => (ht s H C cl fp).canon) (fun s H C cl fp => (hi1 s H C cl fp).canon) (fun s H C cl fp => (hg1 s H C cl fp).canon) (fun s H C cl fp => (ht1 s H C cl fp).canon) (fun s H C cl fp => (he s H C cl fp).canon) hs hs1, ?_⟩
  exact comp2_core hsl hsl1 hv1 qi (fun F H E σ f R ok a => ⟨F, E, f, ok, a⟩) (fun F H E σ f o v Q ok a => ⟨F, E, f, o, ok, a⟩) (fun F H E σ f o v Q ok a => ⟨F, E, f, o, ok, a⟩) (fun F H E σ f Q ok a => ⟨F, E, f, ok, a⟩) (fun F H E σ f Q ok a => ⟨F, E, f, ok, a⟩) (fun F H E σ f Q ok a => ⟨F, E, f, ok, a⟩)
/-- name = [.. for .. for ..] -/
theorem z_comp2 {io : List Nat} {i : Nat} {y : Str} {py spos : Pos} (hc : X.calm = true) (hN : X.N.Nodup) (own : List (Str × Nat)) (vs1 : List Nat) (hi : SI X ad W tg iter mi)
    (hg : ∀ (s : Shared) (H : Hp) (C : Addr) (cl : List (Str × Addr)) (fp : List Addr), SG (X.blk s H scope (compEnvC scope cl C X.env) fp) ad W0 sl tg t)
    (ht : ∀ (s : Shared) (H : Hp) (C : Addr) (cl : List (Str × Addr)) (fp : List Addr), SC (X.blk s H scope (compEnvC scope cl C X.env) fp) ad ifs c)
    (hi1 : ∀ (s : Shared) (H : Hp) (C : Addr) (cl : List (Str × Addr)) (fp : List Addr), SI (X.blk s H scope (compEnvC scope cl C X.env) fp) ad W0 tg1 iter1 mi1)
    (hg1 : ∀ (s : Shared) (H : Hp) (C : Addr) (cl : List (Str × Addr)) (fp : List Addr), SG (X.blk s H scope (compEnvC scope cl C X.env) fp) ad W0 sl1 tg1 t1)
    (ht1 : ∀ (s : Shared) (H : Hp) (C : Addr) (cl : List (Str × Addr)) (fp : List Addr), SC (X.blk s H scope (compEnvC scope cl C X.env) fp) ad ifs1 c1)
    (he : ∀ (s : Shared) (H : Hp) (C : Addr) (cl : List (Str × Addr)) (fp : List Addr), SE (X.blk s H scope (compEnvC scope cl C X.env) fp) ad W0 elt m)
    (hy : X.N[i]? = some y) (hyl : X.env.scope.names.lookup y = some .local) (ok : BlkOk X.N X.env.scope scope own)
    (hsw : swapsWith (.ListComp elt [⟨tg, iter, ifs, 0⟩, ⟨tg1, iter1, ifs1, 0⟩] scope pos) (some (.Name y py)) spos.line X.env = pure true) (hsl : ∀ i ∈ sl, i ∈ own.map (·.2) := by decide) (hsl1 : ∀ i ∈ sl1, i ∈ vs1 := by decide) (hv1 : ∀ i ∈ vs1, i ∈ own.map (·.2) := by decide) (h0 : ∀ j ∈ io, j ≠ i := by decide)
    (hs : ∀ x, foldedSetIterable iter X.env x = pure x := by intro _; rfl) (hs1 : ∀ env x, foldedSetIterable iter1 env x = pure x := by intro _ _; rfl) :
    SS X ad W io (.Assign [.Name y py] (.ListComp elt [⟨tg, iter, ifs, 0⟩, ⟨tg1, iter1, ifs1, 0⟩] scope pos) spos) (mAsg (tName i) (mComp2 (own.map (·.2)) vs1 t mi c mi1 t1 c1 m)) := by
  obtain ⟨wi, pi, qi⟩ := hi.ex
  refine ⟨_, ps_setLc2 (wi1 := tiOf X.K ad mi1) (g := tgOf X.K ad W0 sl t) (g1 := tgOf X.K ad W0 sl1 t1) (tt := ttOf X.K ad c) (tt1 := ttOf X.K ad c1) (te := teOf X.K ad W0 m) hc hN hy hyl hsw pi ok hv1 (fun s H C cl fp => (hg s H C cl fp).canon) (fun s H C cl fp => (ht s H C cl fp).canon) (fun s H C cl fp => (hi1 s H C cl fp).canon) (fun s H C cl fp => (hg1 s H C cl fp).canon) (fun s H C cl fp => (ht1 s H C cl fp).canon) (fun s H C cl fp => (he s H C cl fp).canon) hs hs1, ?_⟩
  refine asg_core (sl := [i]) (W := W) (fun j hj => by simpa using h0 j hj) (comp2_core hsl hsl1 hv1 qi (fun F H E σ f R ok a => ⟨F, E, f, ok, a⟩) (fun F H E σ f o v Q ok a => ⟨F, E, f, o, ok, a⟩) (fun F H E σ f o v Q ok a => ⟨F, E, f, o, ok, a⟩) (fun F H E σ f Q ok a => ⟨F, E, f, ok, a⟩) (fun F H E σ f Q ok a => ⟨F, E, f, ok, a⟩) (fun F H E σ f Q ok a => ⟨F, E, f, ok, a⟩)) ?_
  intro F H E σ f o v Q ok q
  obtain ⟨g, o2, ms⟩ := ok.assign i
  refine q F H _ g (Step.perm ms) o2 ⟨by simp, fun j h => ?_⟩
  rw [List.getElem?_set_ne fun e => h (by simp [e])]
end
end Mn

set_option Elab.async false
set_option linter.all false
set_option maxRecDepth 100000
set_option maxHeartbeats 4000000
/-! list(range(..)); a plain tuple; dict(..) -/
namespace Mn
open PySem PySem.Spec PyProof.Rows L2
def pListRg : List O → Option O
  | [.fz (.int a), .fz (.int b)] => if -(2 ^ 62) ≤ a ∧ a < 2 ^ 62 ∧ -(2 ^ 62) ≤ b ∧ b < 2 ^ 62 ∧ (b - a).toNat ≤ 2 ^ 24 then some (.lst ((List.range (b - a).toNat).map fun (i : Nat) => .fz (.int (a + (i : Int))))) else none
  | _ => none
section
variable {X : Cx} {ad : Nat → Addr} {W : WX}
theorem prg_A {a b : Expr} {ta : TA} {p pos : Pos} (hg : Gl X "range") (hm : X.mg "range" = none) (ha : PA X [a, b] ta) (hs : starEach [a, b] X.env = [(false, eval a X.env), (false, eval b X.env)] := by rfl) (hs2 : starEach [b] X.env = [(false, eval b X.env)] := by rfl) :
    PRg X (.Call (.Name "range" p) [a, b] [] pos) (fun σ H Q => ta σ H fun vs H1 => ∃ i j : Int, vs = [.int i, .int j] ∧ Q i j H1) := by
  intro pins s σ H Q I h
  refine Call_ (ld_blt I hg hm boot_range (PyProof.Rows.callWith_type1 (thn (ha.run pos pins s σ H _ I h) fun us s1 ⟨vs, H1, I1, r1, q1⟩ => ?_) (by rw [hs, hs2]) (by rw [hs2]; rfl)))
  obtain ⟨i, j, e, q⟩ := q1
  subst e
  cases r1 with
  | cons r rr =>
    cases rr with
    | cons r' rr =>
      cases rr
      obtain ⟨t, rfl⟩ := r
      obtain ⟨t', rfl⟩ := r'
      exact call_range_2 ⟨_, i, j, _, _, _, H1, rfl, IsRange.new _ _ _ _ _ _ _, I1.kept fun b u e => Heap.get?_push_of_some _ e, q⟩
def rListRg : List V → Hp → VK → Prop := fun vs H Q => ∃ i j : Int, vs = [.int i, .int j] ∧ RgOk i j ∧ ∀ q, H q = none → Q (.ref q) (upd H q (.lst (rgV i j)))
theorem rgV_is {K : PySem.W.Frag} {F : Hp} (a b : Int) : IsL K ad F ((List.range (b - a).toNat).map fun (i : Nat) => D.int (a + (i : Int))) (rgV a b) := by
  unfold rgV
  induction List.range (b - a).toNat with
  | nil => exact .nil
  | cons i r ih => exact .cons (.int _) ih
theorem k_listRg : Prm X ad rListRg pListRg := by
  refine ⟨fun F H os vs E σ f Q ok hl q => ?_⟩
  rcases hg : pListRg os with _ | o
  · rw [hg] at q; exact q.elim
  rw [hg] at q
  unfold pListRg at hg
  split at hg
  · next a b =>
    match vs, hl, ok with
    | [v, u], hl, ok =>
      split at hg
      · next hh =>
        cases hg
        have r := ok.isL (os := [.fz (.int a), .fz (.int b)]) (vs := [v, u]) rfl
        obtain ⟨f2, o2, s2⟩ := ok.rest (os := [.fz (.int a), .fz (.int b)]) (vs := [v, u]) rfl
        simp only [O.toDs, O.toD] at r
        cases r with
        | cons r1 r => cases r with
          | cons r2 r =>
            cases r; cases r1; cases r2
            refine ⟨a, b, rfl, hh, fun p n => ?_⟩
            have r0 := rgV_is (ad := ad) (K := X.K) (F := F) a b
            have o6 : Ok X.K ad F H ((((List.range (b - a).toNat).map fun (i : Nat) => D.int (a + (i : Int))).map O.fz).map some ++ E) ((rgV a b).map some ++ σ) ([] ++ f2) :=
              ⟨o2.sub, RepE.append (RepE.ofL (RepL.ofIs r0)) o2.rep, by simpa using o2.nd, fun x hx => o2.nf x (by simpa using hx)⟩
            obtain ⟨s7, o7⟩ := o6.newLst (P := []) (PS := []) (by simp [r0.length.symm]) n
            have e : (((List.range (b - a).toNat).map fun (i : Nat) => D.int (a + (i : Int))).map O.fz) = ((List.range (b - a).toNat).map fun (i : Nat) => O.fz (.int (a + (i : Int)))) := by rw [List.map_map]; rfl
            rw [e] at o7
            exact q _ _ _ _ (s2.trans s7) o7
      · cases hg
  · cases hg
/-- list(range(a, b)) -/
theorem s_listRg {a b : Expr} {p0 p pos pos' : Pos} {ms : M (List O)} (hcalm : X.calm = true) (hml : X.mg "list" = none) (hm : X.mg "range" = none) (ha : SA X ad W [a, b] ms) (hgl : Gl X "list" := by rfl) (hg : Gl X "range" := by rfl)
    (hs : starEach [a, b] X.env = [(false, eval a X.env), (false, eval b X.env)] := by rfl) (hs2 : starEach [b] X.env = [(false, eval b X.env)] := by rfl)
    (na : starEach [.Call (.Name "range" p) [a, b] [] pos] X.env = (false, eval (.Call (.Name "range" p) [a, b] [] pos) X.env) :: starEach [] X.env := by rfl) :
    SE X ad W (.Call (.Name "list" p0) [.Call (.Name "range" p) [a, b] [] pos] [] pos') (mPrim pListRg ms) := by
  obtain ⟨ta, pa, qa⟩ := ha.ex
  refine prim_of (ta := ta) (r := rListRg) (PE.imp (pe_listRg hcalm hgl hml (prg_A hg hm pa hs hs2) na) fun σ H Q h => ?_) qa k_listRg
  exact h
/-! a plain tuple -/
def rTupleP (K : PySem.W.Frag) : List V → Hp → VK → Prop := fun xs H Q => ∃ p ys, xs = [.ref p] ∧ SqL K H p ys ∧ ∀ q (o : Obj), o.dict = none → H q = none → Q (.ref q) (upd H q (.frz o (.tup ys)))
theorem call_tupleP : CallR X (.type "tuple") (rTupleP X.K) := by
  intro pins s σ H xs us Q I r h
  obtain ⟨p, ys, rfl, hq, q⟩ := h
  obtain ⟨u, rfl, rx⟩ := vals1 r
  cases rx
  obtain ⟨its, r', pl, hz⟩ := I.list hq
  have hlen := r'.length
  refine call_tuple_list pl.isList (fun h' kp => ?_) (by simp only [List.size_toArray] <;> omega)
  have I1 : Inv X pins σ H { s with heap := h' } := I.kept (t' := s.toks) kp
  let o : Obj := { cls := .type "tuple", data := .seq its.toArray }
  have I2 : Inv X pins σ (upd H h'.objs.size (.frz o (.tup ys))) { s with heap := h'.push { cls := .type "tuple", data := .seq its.toArray } } :=
    I1.laid (t' := s.toks) (fun b o e => Heap.get?_push_of_some _ e) (Nat.le_refl _) (show ObjOk X.prog X.w _ _ _ (.frz o (.tup ys)) from ⟨Heap.get?_push_size _ rfl, hz, its, r', IsTup.new _ _⟩)
  exact ⟨.ref h'.objs.size, _, I2, rfl, q _ _ rfl (I1.hok.fresh (Nat.le_refl _))⟩
end
section
variable {K : PySem.W.Frag} {ad : Nat → Addr} {F H : Hp} {f : List Addr} {E : En} {S : L2.St} {p : Addr}
theorem Ok.newPtp {ds : List D} {vs : List V} {o : Obj} (ok : Ok K ad F H E S f) (n : H p = none) (ho : o.dict = none) (r : IsL K ad F ds vs) :
    Step F H f (upd F p (.frz o (.tup vs))) (upd H p (.frz o (.tup vs))) f ∧ Ok K ad (upd F p (.frz o (.tup vs))) (upd H p (.frz o (.tup vs))) (some (.ptp ds) :: E) (some (.ref p) :: S) f := by
  have nF : F p = none := Same.free ok.sub n
  have sF : Same F (upd F p (.frz o (.tup vs))) := Same.upd nF
  have np : ∀ a ∈ f, a ≠ p := fun a ha => by
    obtain ⟨u, e⟩ := ok.rep.trk a ha
    exact ne_of_none e n
  refine ⟨⟨sF, fun b o e _ => Same.upd n b o e, fun b o e _ hn => by rw [upd_ne (ne_of_none e n)]; exact hn, fun b e => ?_, fun a ha => .inl ha⟩, ⟨fun b u e => ?_, .put (f := []) (.ptp upd_same ho (r.mono sF)) (ok.rep.mono sF fun a ha u e => by rw [upd_ne (np a ha)]; exact e), ok.nd, fun a ha => by rw [upd_ne (np a ha)]; exact ok.nf a ha⟩⟩
  · by_cases hb : b = p
    · subst hb; exact n
    · rw [upd_ne hb] at e; exact e
  · by_cases hb : b = p
    · subst hb; rw [upd_same] at e ⊢; exact e
    · rw [upd_ne hb] at e ⊢; exact ok.sub b u e
end
def oTupleP : D → Option O
  | .lst ds => some (.ptp ds)
  | _ => none
def pTupleP : List O → Option O := fun os => match os with
  | [a] => oTupleP a.toD
  | _ => none
theorem k_tupleP {X : Cx} {ad : Nat → Addr} : Prm X ad (rTupleP X.K) pTupleP := prm_f fun F H d x o E σ f Q ok r e q => by
  cases r with
  | @lst p ds vs hs r =>
    cases e
    refine ⟨p, vs, rfl, .inl (.inl (ok.sub _ _ hs)), fun l ob hd n => ?_⟩
    obtain ⟨s2, o2⟩ := ok.newPtp n hd r
    exact q _ _ _ _ s2 o2
  | _ => cases e
/-! dict(..) -/
def pairK1 : D → Option (KK × D)
  | .tup [k, v] => match kOf k with
    | some j => some (j, v)
    | none => none
  | _ => none
def pairsK : List D → Option (List (KK × D))
  | [] => some []
  | d :: ds => match pairK1 d, pairsK ds with
    | some p, some ps => some (p :: ps)
    | _, _ => none
def fzK (kvs : List (KK × D)) : List (KK × O) := kvs.map fun p => (p.1, .fz p.2)
def dDict (kvs : List (KK × D)) : Option O := if (kvs.map (·.1)).Nodup ∧ kvs.length ≤ sizeLine then some (.dct (fzK kvs)) else none
def pDict : List O → Option O
  | [.ptp ds] => (pairsK ds).bind dDict
  | [o] => match o.toD with
    | .dct kvs => dDict kvs
    | _ => none
  | _ => none
/-- what is asked of dict(x) -/
def rDict (K : PySem.W.Frag) : List V → Hp → VK → Prop := fun xs H Q => ∃ a kvs, xs = [.ref a] ∧ (Rd H a (.dK kvs) ∨ ∃ (ps : List Addr) (o : Obj), H a = some (.frz o (.tup (ps.map V.ref))) ∧ o.dict = none ∧ Paired (fun p (kv : Key × V) => SqT K H p [kV kv.1, kv.2]) ps kvs ∧ mergeK [] kvs = kvs) ∧ ∀ p, H p = none → Q (.ref p) (upd H p (.dK kvs))
section
variable {X : Cx} {ad : Nat → Addr} {W : WX}
theorem pairs_of2 {pins : List (Addr × Obj)} {σ : L2.St} {H : Hp} {s : Shared} (I : Inv X pins σ H s) : ∀ {ps : List Addr} {kvs : List (Key × V)}, Paired (fun p (kv : Key × V) => SqT X.K H p [kV kv.1, kv.2]) ps kvs →
    ∃ (prs : List (Key × Value)) (pvs : List (Value × Value)), KV kvs prs ∧ prs.length = ps.length ∧ pvs.length = ps.length ∧ ∀ (j : Nat) (k v : Value), pvs[j]? = some (k, v) → ∃ (b : Addr) (kk : Key), ps[j]? = some b ∧ IsTup s.heap b #[k, v] ∧ prs[j]? = some (kk, v) ∧ keyIs kk k = true
  | _, _, .nil => ⟨[], [], .nil, rfl, rfl, fun j k v e => by simp at e⟩
  | _, _, .cons (a := p) (b := kv) h t => by
    obtain ⟨prs, pvs, r, hl, hl2, hp⟩ := pairs_of2 I t
    obtain ⟨its, rv, ht, _⟩ := I.tuple h
    obtain ⟨u, y, ei, ru, ry⟩ := vals2 rv
    subst ei
    refine ⟨(kv.1, y) :: prs, (u, y) :: pvs, .cons ⟨rfl, ry⟩ r, by rw [List.length_cons, List.length_cons, hl], by rw [List.length_cons, List.length_cons, hl2], fun j k v e => ?_⟩
    cases j with
    | zero =>
      have e' : (u, y) = (k, v) := Option.some.inj e
      cases e'
      exact ⟨p, kv.1, rfl, ht, rfl, kV_is (P := X.prog) (w := X.w) ru⟩
    | succ j =>
      obtain ⟨b, kk, e1, e2, e3, e4⟩ := hp j k v (by simpa using e)
      exact ⟨b, kk, by simpa using e1, e2, by simpa using e3, e4⟩
theorem call_dict2 (hcalm : X.calm = true) : CallR X (.type "dict") (rDict X.K) := by
  intro pins s σ H xs us Q I r h
  obtain ⟨a, kvs, ex, h, q⟩ := h
  rcases h with hd | ⟨ps, o, ha, hd, hp, hm⟩
  · exact call_dictD pins s σ H xs us Q I r ⟨a, kvs, ex, hd, q⟩
  subst ex
  obtain ⟨u, eu, rx⟩ := vals1 r
  subst eu
  cases rx
  obtain ⟨prs, pvs, rel, hl, hl2, hpr⟩ := pairs_of2 I hp
  obtain ⟨ho, hz, its, rv, ht⟩ := I.hok a _ ha
  have ei := refs_at rv
  subst ei
  rw [List.length_map] at hz
  obtain ⟨o', ho', hc, n, hdat⟩ := ht
  have eo : o' = o := by rw [ho] at ho'; exact (Option.some.inj ho').symm
  subst eo
  have P : PairArg X.prog X.w "tuple" a _ _ _ _ _ := PairArg.tuple a (ps.map Value.ref).toArray (fun j => ps.getD j 0) pvs
  refine PySem.call_dict_pairs (knd := mixKind X.prog X.w) (kvs := prs) P (I.ok.hd hcalm) ⟨⟨_, n, ho, hc, hd, hdat⟩, by simp [hl2], fun j k v e => ?_⟩ ⟨by rw [hl, hl2], fun i k v e => ?_⟩ (by rw [hl2]; exact hz) fun h' tk hd' k => ?_
  · obtain ⟨b, kk, e1, e2, e3, e4⟩ := hpr j k v e
    have : ps.getD j 0 = b := by simp [List.getD, e1]
    simp only [this]
    exact ⟨by simp [e1], .inl e2⟩
  · obtain ⟨b, kk, e1, e2, e3, e4⟩ := hpr i k v e
    exact ⟨kk, e3, e4⟩
  · have hmm : (s.heap.objs.size == sysModules) = false := beq_eq_false_iff_ne.mpr (Nat.ne_of_gt I.big)
    have hlen : kvs.length ≤ sizeLine := by
      rw [rel.length, hl]
      exact hz
    have rel2 : KV kvs (merged [] prs) := by
      have := KV.merge rel (kvs := []) (vs := []) Paired.nil
      rwa [hm] at this
    exact ⟨.ref s.heap.objs.size, upd H s.heap.objs.size (.dK kvs), I.laid (t' := tk) (fun b o e => k b o (by simp) e) (Nat.le_refl _) (show ObjOk X.prog X.w _ _ _ (.dK kvs) from ⟨hlen, hmm, merged [] prs, rel2, hd'⟩), rfl, q _ (I.hok.fresh (Nat.le_refl _))⟩
theorem mergeK_nodup : ∀ (more acc : List (Key × V)), ((acc ++ more).map (·.1)).Nodup → mergeK acc more = acc ++ more
  | [], acc, _ => by simp [mergeK]
  | p :: r, acc, h => by
    have hno : ¬ (acc.any fun kv => decide (kv.1 = p.1)) = true := by
      intro hh
      obtain ⟨x, hx, e⟩ := List.any_eq_true.mp hh
      have e := of_decide_eq_true e
      rw [List.map_append, List.nodup_append] at h
      exact h.2.2 x.1 (List.mem_map_of_mem hx) p.1 (List.mem_map_of_mem List.mem_cons_self) e
    have e1 : putK acc p.1 p.2 = acc ++ [p] := by unfold putK; rw [if_neg hno]
    have e2 : mergeK acc (p :: r) = mergeK (putK acc p.1 p.2) r := rfl
    rw [e2, e1, mergeK_nodup r (acc ++ [p]) (by simpa using h)]
    simp
theorem IsK.keys {K : PySem.W.Frag} {F : Hp} : ∀ {kvs : List (KK × D)} {ws : List (Key × V)}, IsK K ad F kvs ws → ws.map (·.1) = kvs.map fun p => tk p.1
  | _, _, .nil => rfl
  | _, _, .cons _ r => by rw [List.map_cons, List.map_cons, IsK.keys r]
theorem IsK.nodup {K : PySem.W.Frag} {F : Hp} {kvs : List (KK × D)} {ws : List (Key × V)} (r : IsK K ad F kvs ws) (h : (kvs.map (·.1)).Nodup) : (ws.map (·.1)).Nodup := by
  rw [r.keys]
  have : (kvs.map fun p => tk p.1) = (kvs.map (·.1)).map tk := by rw [List.map_map]; rfl
  rw [this]
  exact List.Pairwise.map _ (fun a b hab e => hab (tk_inj e)) h
theorem RepK.ofIs {K : PySem.W.Frag} {F H : Hp} : ∀ {kvs : List (KK × D)} {ws : List (Key × V)}, IsK K ad F kvs ws → RepK K ad F H (fzK kvs) ws []
  | _, _, .nil => .nil
  | _, _, .cons h r => .cons (f := []) (.fz h) (RepK.ofIs r)
theorem kOf_is {K : PySem.W.Frag} {F : Hp} {k : D} {j : KK} {x : V} (r : Is K ad F k x) (e : kOf k = some j) : x = kV (tk j) := by
  cases r with
  | int i => cases e; rfl
  | str s => cases e; rfl
  | _ => cases e
theorem pairs_is {K : PySem.W.Frag} {F : Hp} : ∀ {ds : List D} {vs : List V} {kvs : List (KK × D)}, IsL K ad F ds vs → pairsK ds = some kvs → ∃ ps ws, vs = ps.map V.ref ∧ IsK K ad F kvs ws ∧ Paired (fun p (kv : Key × V) => SqT K F p [kV kv.1, kv.2]) ps ws
  | _, _, _, .nil, e => by cases e; exact ⟨[], [], rfl, .nil, .nil⟩
  | _, _, kvs, .cons (d := d) (ds := ds) h r, e => by
    unfold pairsK at e
    cases h1 : pairK1 d with
    | none => rw [h1] at e; cases e
    | some p =>
      cases h2 : pairsK ds with
      | none => rw [h1, h2] at e; cases e
      | some ps =>
        rw [h1, h2] at e
        cases e
        obtain ⟨as, ws, rfl, i1, i2⟩ := pairs_is r h2
        unfold pairK1 at h1
        split at h1
        · next k v =>
          cases h3 : kOf k with
          | none => rw [h3] at h1; cases h1
          | some j =>
            rw [h3] at h1
            cases h1
            cases h with
            | @tup a _ xs hs rl =>
              cases rl with
              | cons r1 rl => cases rl with
                | cons r2 rl =>
                  cases rl
                  have ek := kOf_is r1 h3
                  subst ek
                  exact ⟨a :: as, _, rfl, .cons r2 i1, .cons hs i2⟩
        · cases h1
theorem Ok.newDctF {K : PySem.W.Frag} {F H : Hp} {f : List Addr} {E : En} {S : L2.St} {p : Addr} {kvs : List (KK × D)} {ws : List (Key × V)} (ok : Ok K ad F H E S f) (n : H p = none) (r : IsK K ad F kvs ws) (nd : (kvs.map (·.1)).Nodup) :
    Step F H f F (upd H p (.dK ws)) (p :: f) ∧ Ok K ad F (upd H p (.dK ws)) (some (.dct (fzK kvs)) :: E) (some (.ref p) :: S) (p :: f) := by
  have nF : F p = none := Same.free ok.sub n
  have np : ∀ a ∈ f, a ≠ p := fun a ha => by
    obtain ⟨u, e⟩ := ok.rep.trk a ha
    exact ne_of_none e n
  refine ⟨⟨Same.refl _, fun b o e _ => Same.upd n b o e, fun b o e _ hn => hn, fun b e => ?_, fun a ha => ?_⟩, ⟨fun b u e => Same.upd n b u (ok.sub b u e), ?_, List.nodup_cons.mpr ⟨fun h => np p h rfl, ok.nd⟩, fun a ha => ?_⟩⟩
  · by_cases hb : b = p
    · subst hb; exact n
    · rw [upd_ne hb] at e; exact e
  · rcases List.mem_cons.mp ha with rfl | ha
    · exact .inr n
    · exact .inl ha
  · have r2' := ok.rep.mono (H' := upd H p (.dK ws)) (Same.refl F) fun a ha u e => by rw [upd_ne (np a ha)]; exact e
    exact .put (f := [p]) (.dct upd_same (by simpa [fzK, List.map_map, Function.comp_def] using nd) (RepK.ofIs r)) r2'
  · rcases List.mem_cons.mp ha with rfl | ha
    · exact nF
    · exact ok.nf a ha
theorem paired_mono {K : PySem.W.Frag} {F H : Hp} (e : Same F H) : ∀ {ps : List Addr} {ws : List (Key × V)}, Paired (fun p (kv : Key × V) => SqT K F p [kV kv.1, kv.2]) ps ws → Paired (fun p (kv : Key × V) => SqT K H p [kV kv.1, kv.2]) ps ws
  | _, _, .nil => .nil
  | _, _, .cons h t => .cons (Same.sqT e h) (paired_mono e t)
theorem k_dict : Prm X ad (rDict X.K) pDict := by
  refine ⟨fun F H os vs E σ f Q ok hl q => ?_⟩
  rcases hg : pDict os with _ | o
  · rw [hg] at q; exact q.elim
  rw [hg] at q
  unfold pDict at hg
  split at hg
  · next ds =>
    match vs, hl, ok with
    | [v], hl, ok =>
      cases hp : pairsK ds with
      | none => rw [hp] at hg; cases hg
      | some kvs =>
        rw [hp] at hg
        have hg : dDict kvs = some o := hg
        unfold dDict at hg
        split at hg
        · next hh =>
          cases hg
          have ok' : Ok X.K ad F H (some (.ptp ds) :: E) (some v :: σ) f := ok
          obtain ⟨f1, o1, s1⟩ := ok'.tl'
          have r := ok'.rep
          cases r with
          | put r1 r2 =>
            cases r1 with
            | @ptp a ob _ xs h1 h2 h3 =>
              obtain ⟨ps, ws, rfl, i1, i2⟩ := pairs_is h3 hp
              have nd := i1.nodup hh.1
              refine ⟨a, ws, rfl, .inr ⟨ps, ob, ok.sub _ _ h1, h2, paired_mono ok.sub i2, by simpa using mergeK_nodup ws [] (by simpa using nd)⟩, fun p n => ?_⟩
              obtain ⟨s2, o2⟩ := o1.newDctF n i1 hh.1
              exact q _ _ _ _ (s1.trans s2) o2
        · cases hg
  · next o0 _ =>
    match vs, hl, ok with
    | [v], hl, ok =>
      obtain ⟨F4, f4, s4, o4, _⟩ := Ok.freeze (o := o0) (v := v) (E := E) (S := σ) ok
      have iv := o4.head
      obtain ⟨f5, o5, s5⟩ := o4.tl'
      split at hg
      · next kvs hk =>
        rw [hk] at iv
        unfold dDict at hg
        split at hg
        · next hh =>
          cases hg
          cases iv with
          | @dct a _ ws hs r =>
            refine ⟨a, ws, rfl, .inl (.inl (o4.sub _ _ hs)), fun p n => ?_⟩
            obtain ⟨s6, o6⟩ := o5.newDctF n r hh.1
            exact q _ _ _ _ (s4.trans (s5.trans s6)) o6
        · cases hg
      · cases hg
  · cases hg
end
end Mn

set_option Elab.async false
set_option linter.all false
set_option maxRecDepth 100000
set_option maxHeartbeats 4000000
/-! calls without arguments, of a local name; constants of the module; dict displays; enumerate of a list; unpacking of a list -/
namespace Mn
open PySem PySem.Spec PyProof.Rows L2
section
variable {X : Cx} {ad : Nat → Addr} {W : WX} {e : Expr} {es : List Expr} {ms : M (List O)} {φ : List O → Cr} {np : Nat} {x : Str} {p pos : Pos}
theorem pe_callS0 {CX : CXT} {k : Nat} {f : Addr} {fd : FuncData} {ps : List Str} {sp : Sp} {E : L2.St → XK} (F : FnOk X.prog X.w X.K X.mg X.base CX k f fd ps sp) (hr : Room k X.A) (hg : Gl X x) (hm : X.mg x = some (.ref f)) (hk : PySem.W.keepIn X.K (.ref f) = true) (hb : Binds X.K fd ps []) (hx : ∀ σ, PassesAt CX X σ (E σ))
    (hdb : (x == ("__debug__" : Str)) = false := by decide) : PE X (.Call (.Name x p) [] [] pos) (tCallS sp E tNil) := by
  refine ⟨fun pins s σ H Q I h => ?_⟩
  refine wpAny_Call_Name_kw (ld_glob I hg hm ?_ hdb)
  exact PySem.W.callWith_K0 I.kIn hk (run_fnS (us := []) F hr hb (hx σ) I .nil h)
theorem s_call0 (c : Cal X.prog X.w X.K X.mg X.base X.A ad x 0 φ) (tk : Takes X W) (hg : Gl X x := by rfl) (hdb : (x == ("__debug__" : Str)) = false := by decide) : SE X ad W (.Call (.Name x p) [] [] pos) (mCall φ mNil) := by
  obtain ⟨k, fa, fd, ps, F, hr, hm, hk, hb⟩ := c.ex
  refine ⟨_, pe_callS0 F hr hg hm hk hb (fun σ => passAt tk σ) hdb, fun F0 H E σ f Q ok q => ?_⟩
  unfold mCall mNil at q
  rw [bind_ok] at q
  show spOf X.K ad 0 φ [] H Q (WE W σ)
  refine run_call (os := []) (vs := []) (E := E) rfl rfl ok ?_
  cases hφ : φ [] with
  | ok o s =>
    rw [hφ] at q
    intro F' H' v f' st o'
    obtain ⟨g, o2, hm2⟩ := o'.del2
    exact q F' H' v g (st.less hm2) o2
  | exc c =>
    rw [hφ] at q
    exact fun F' H' f' st o' => q F' H' f' st o'
  | bad => rw [hφ] at q; exact q.elim
/-! a local name that holds a def -/
/-- a def at an address -/
structure CalV (P : Program) (w : World) (K : PySem.W.Frag) (mg : Str → Option Value) (base : Heap) (A : Around) (ad : Nat → Addr) (f : Addr) (np : Nat) (φ : List O → Cr) : Prop where
  ex : ∃ k fd ps, FnOk P w K mg base (L2.CX P w) k f fd ps (spOf K ad np φ) ∧ Room k A ∧ PySem.W.keepIn K (.ref f) = true ∧ Binds K fd ps []
def mCallV (G : Nat → List O → Cr) (cs : List Nat) (i : Nat) (vals : M (List O)) : M O := fun E => match E[i]? with
  | some (some (.fz (.fn j))) => if j ∈ cs then mCall (G j) vals E else .bad
  | _ => .bad
theorem s_callV {G : Nat → List O → Cr} {cs : List Nat} (i : Nat) (c : ∀ j ∈ cs, CalV X.prog X.w X.K X.mg X.base X.A ad (ad j) np (G j)) (tk : Takes X W) (hi : X.N[i]? = some x) (hv : Vis X.env.scope x) (ha : SA X ad W (e :: es) ms) (hn : (e :: es).length = np) (hlen : ∀ E os E', ms E = .ok os E' → os.length = (e :: es).length)
    (hd : (x == ("__debug__" : Str)) = false := by decide) (hcd : (x == ("__classdict__" : Str)) = false := by decide)
    (he : starEach (e :: es) X.env = (false, eval e X.env) :: starEach es X.env := by rfl) (hpl : (backTo pos (starEach es X.env)).any (·.1) = false := by rfl) : SE X ad W (.Call (.Name x p) (e :: es) [] pos) (mCallV G cs i ms) := by
  obtain ⟨ta, pa, qa⟩ := ha.ex
  refine ⟨fun σ H Q => ∃ j ∈ cs, σ[i]? = some (some (.ref (ad j))) ∧ ta σ H fun vs H1 => spOf X.K ad np (G j) vs H1 Q (WE W σ), ⟨fun pins s σ H Q I ⟨j, hj, hs, ht⟩ => ?_⟩, fun F0 H E σ f Q ok q => ?_⟩
  · obtain ⟨k, fd, ps, F, hr, kp, b⟩ := (c j hj).ex
    refine wpAny_Call_Name_kw (thn ((pe_var (pos := p) hi hv hd hcd).run pins s σ H (fun v H1 => v = .ref (ad j) ∧ H1 = H) I ⟨.ref (ad j), hs, rfl, rfl⟩) fun u s1 ⟨v, H1, I1, r1, q1⟩ => ?_)
    obtain ⟨rfl, rfl⟩ := q1
    cases r1
    refine PySem.W.callWith_K (h₀ := X.base) I.ok.mod.kin kp (thn (pa.run pos pins s1 σ _ _ I1 ht) fun us s2 ⟨vs, H2, I2, r, q⟩ => ⟨I2.kIn, ?_⟩) he hpl
    exact run_fnS F hr b (passAt tk σ) I2 r q
  · unfold mCallV at q
    split at q
    · next j h0 =>
      split at q
      · next hj =>
        obtain ⟨v, f1, f2, hvv, hrep, _⟩ := ok.rep.at h0
        have hvj : v = .ref (ad j) := by
          cases hrep with
          | fz h => cases h; rfl
        subst hvj
        refine ⟨j, hj, hvv, ?_⟩
        refine qa F0 H E σ f _ ok ?_
        unfold mCall at q
        cases hms : ms E with
        | bad => rw [hms] at q; exact q
        | exc c E' => rw [hms] at q; exact fun F' H' f' s o => q F' H' f' s o
        | ok os E1 =>
          rw [hms, bind_ok] at q
          intro F1 H1 vs f1 s1 l1 o1
          refine run_call (by rw [hlen _ _ _ hms, hn]) l1 o1 ?_
          cases hφ : G j os with
          | ok o s =>
            rw [hφ] at q
            intro F' H' v f' st o'
            obtain ⟨g, o2, hm2⟩ := o'.del2
            exact q F' H' v g (s1.trans (st.less hm2)) o2
          | exc c =>
            rw [hφ] at q
            exact fun F' H' f' st o' => q F' H' f' (s1.trans st) o'
          | bad => rw [hφ] at q; exact q.elim
      · exact q.elim
    · exact q.elim
/-- a def's name as a value -/
theorem s_fn (j : Nat) (hm : X.mg x = some (.ref (ad j))) (hg : Gl X x := by rfl) (hdb : (x == ("__debug__" : Str)) = false := by decide) : SE X ad W (.Name x pos) (mLit (.fn j)) :=
  s_glob hm (v := .ref (ad j)) rfl (fun _ => .fn j) hg hdb
end
/-! constants of the module -/
mutual
def conB (K : PySem.W.Frag) : D → Value → Bool
  | .non, .none => true
  | .bl b, .bool c => b == c
  | .int i, .int j _ => decide (i = j)
  | .str s, .str y _ => decide (y = ⟨s.toArray⟩)
  | .tup ds, .ref a => (match K.lookup a with
    | some ⟨.type c, _, .seq its _, _⟩ => decide (c = "tuple") && (decide (its.size ≤ sizeLine) && conL K ds its.toList)
    | _ => false)
  | _, _ => false
def conL (K : PySem.W.Frag) : List D → List Value → Bool
  | [], [] => true
  | d :: ds, v :: vs => conB K d v && conL K ds vs
  | _, _ => false
end
section
variable {K : PySem.W.Frag} {ad : Nat → Addr}
mutual
theorem conB_ok : ∀ (d : D) (v : Value), conB K d v = true → ∃ x, RelV x v ∧ ∀ H, Is K ad H d x
  | .non, .none, _ => ⟨.non, rfl, fun _ => .non⟩
  | .bl b, .bool c, h => by
    have : b = c := by
      have h1 : (b == c) = true := by simpa [conB] using h
      exact eq_of_beq h1
    subst this
    exact ⟨.bl b, rfl, fun _ => .bl b⟩
  | .int i, .int j t, h => by
    have : i = j := by simpa [conB] using h
    subst this
    exact ⟨.int i, ⟨t, rfl⟩, fun _ => .int i⟩
  | .str s, .str y t, h => by
    have : y = ⟨s.toArray⟩ := by simpa [conB] using h
    subst this
    exact ⟨.str _, ⟨t, rfl⟩, fun _ => .str s⟩
  | .tup ds, .ref a, h => by
    unfold conB at h
    split at h
    · next c od its n osl q =>
      obtain ⟨h1, h2⟩ := He.ba h
      obtain ⟨h3, h4⟩ := He.ba h2
      obtain ⟨vs, r, q2⟩ := conL_ok ds its.toList h4
      exact ⟨.ref a, rfl, fun H => .tup (.inr ⟨_, its, n, q, congrArg Value.type (of_decide_eq_true h1), rfl, of_decide_eq_true h3, r⟩) (q2 H)⟩
    · cases h
  | .non, .bool _, h | .non, .int _ _, h | .non, .str _ _, h | .non, .ref _, h => by simp [conB] at h
  | .lst _, _, h | .dct _, _, h | .fn _, _, h | .scr _, _, h => by simp [conB] at h
theorem conL_ok : ∀ (ds : List D) (us : List Value), conL K ds us = true → ∃ vs, Vals vs us ∧ ∀ H, IsL K ad H ds vs
  | [], [], _ => ⟨[], .nil, fun _ => .nil⟩
  | [], _ :: _, h => by simp [conL] at h
  | _ :: _, [], h => by simp [conL] at h
  | d :: ds, u :: us, h => by
    unfold conL at h
    obtain ⟨h1, h2⟩ := He.ba h
    obtain ⟨x, r, q⟩ := conB_ok d u h1
    obtain ⟨vs, r2, q2⟩ := conL_ok ds us h2
    exact ⟨x :: vs, .cons r r2, fun H => .cons (q H) (q2 H)⟩
end
end
def conX (K : PySem.W.Frag) (x : Str) (d : D) : Bool := match PySem.W.nsIn K mainGlobals x with
  | some (some v) => conB K d v
  | _ => false
theorem conX_ok {K : PySem.W.Frag} {ad : Nat → Addr} {h : Heap} {mg : Str → Option Value} {x : Str} {d : D} (X : K.In h) (G : h.Ns mainGlobals mg) (c : conX K x d = true) : ∃ u v, mg x = some u ∧ RelV v u ∧ ∀ H, Is K ad H d v := by
  unfold conX at c
  cases e : PySem.W.nsIn K mainGlobals x with
  | none => rw [e] at c; cases c
  | some o =>
    rw [e] at c
    cases o with
    | none => cases c
    | some v =>
      obtain ⟨y, r, q⟩ := conB_ok (ad := ad) d v c
      exact ⟨v, y, PySem.W.mg_of X G e, r, q⟩
theorem s_con {X : Cx} {ad : Nat → Addr} {W : WX} {x : Str} {pos : Pos} (d : D) (h : ∃ u v, X.mg x = some u ∧ RelV v u ∧ ∀ H, Is X.K ad H d v) (hg : Gl X x := by rfl) (hdb : (x == ("__debug__" : Str)) = false := by decide) : SE X ad W (.Name x pos) (mLit d) := by
  obtain ⟨u, v, h1, h2, h3⟩ := h
  exact s_glob h1 (v := v) h2 h3 hg hdb
end Mn

set_option Elab.async false
set_option linter.all false
set_option maxRecDepth 100000
set_option maxHeartbeats 4000000
namespace Mn
open PySem PySem.Spec PyProof.Rows L2
/-! dict displays, the keys written texts -/
def mDisp (ks : List (List Nat)) (ms : M (List O)) : M O := fun E => (ms E).bind fun os E1 => if ks.Nodup ∧ os.length = ks.length ∧ ks.length ≤ 15 then .ok (.dct ((ks.map Sum.inr).zip os)) E1 else .bad
def pz (ks : List (List Nat)) (vs : List V) : List (V × V) := (ks.zip vs).map fun p => (V.str ⟨p.1.toArray⟩, p.2)
structure SPs (X : Cx) (ad : Nat → Addr) (W : WX) (pos : Pos) (keys : List (Option Expr)) (values : List Expr) (ks : List (List Nat)) (ms : M (List O)) : Prop where
  ex : ∃ trs, PPs X pos keys values trs ∧ ∀ P PS F H E σ f Q, P.length = PS.length → Ok X.K ad F H (P ++ E) (PS ++ σ) f → AftL X.K ad W P PS F H f σ (ms E) (fun vs H' => Q (pz ks vs) H') → tPairs trs σ H Q
section
variable {X : Cx} {ad : Nat → Addr} {W : WX} {pos : Pos} {keys : List (Option Expr)} {values : List Expr} {ks : List (List Nat)} {ms : M (List O)}
theorem sps_nil : SPs X ad W pos [] [] [] mNil := ⟨_, pps_nil, fun P PS F H E σ f Q hl ok a => a F H [] f (Step.refl _ _ _) rfl ok⟩
theorem sps_cons {x : Str} {j : Nat} {kp : Pos} {e : Expr} {m : M O} (s : List Nat) (ha : SE X ad W e m) (hr : SPs X ad W pos keys values ks ms) (hx : x = ⟨s.toArray⟩ := by decide +kernel) : SPs X ad W pos (some (.Constant (.str x) j kp) :: keys) (e :: values) (s :: ks) (mCons m ms) := by
  subst hx
  obtain ⟨te, pe, qe⟩ := ha.run
  obtain ⟨trs, pp, qp⟩ := hr.ex
  refine ⟨_, pps_cons pe_str pe pp, fun P PS F H E σ f Q hl ok a => ?_⟩
  show te σ H fun y H2 => tPairs trs σ H2 fun ps H3 => Q ((.str ⟨s.toArray⟩, y) :: ps) H3
  unfold mCons at a
  refine qe P PS F H E σ f _ hl ok ?_
  cases hm : m E with
  | bad => rw [hm] at a; exact a
  | exc c E' => rw [hm] at a; exact fun F' H' f' s o => a F' H' f' s o
  | ok o E1 =>
    rw [hm, bind_ok] at a
    intro F1 H1 v f1 s1 o1
    have o1' : Ok X.K ad F1 H1 ((P ++ [some o]) ++ E1) ((PS ++ [some v]) ++ σ) f1 := by simpa using o1
    refine qp (P ++ [some o]) (PS ++ [some v]) F1 H1 E1 σ f1 _ (by simp [hl]) o1' ?_
    cases hm2 : ms E1 with
    | bad => rw [hm2] at a; exact a
    | exc c E' => rw [hm2] at a; exact fun F' H' f' s o => a F' H' f' (s1.trans s) o
    | ok os E2 =>
      rw [hm2, bind_ok] at a
      intro F2 H2 vs f2 s2 l2 o2
      exact a F2 H2 (v :: vs) f2 (s1.trans s2) (by simp [l2]) (by simpa using o2)
theorem zip_rep {K : PySem.W.Frag} {F H : Hp} : ∀ {ks : List (List Nat)} {os : List O} {vs : List V} {fp : List Addr}, RepL K ad F H os vs fp → os.length = ks.length → RepK K ad F H ((ks.map Sum.inr).zip os) ((ks.map fun k => tk (.inr k)).zip vs) fp
  | [], _, _, _, .nil, _ => .nil
  | [], _, _, _, .cons _ _, h => by simp at h
  | _ :: _, _, _, _, .nil, h => by simp at h
  | k :: ks, _, _, _, .cons h r, hl => .cons (k := .inr k) h (zip_rep r (by simpa using hl))
theorem s_disp (hp : SPs X ad W pos keys values ks ms) (hall : keys.all (·.isSome) = true := by rfl) (hlen : keys.length = values.length := by rfl) (h0 : keys ≠ [] := by simp) (h15 : keys.length ≤ 15 := by decide) : SE X ad W (.Dict keys values pos) (mDisp ks ms) := by
  obtain ⟨trs, pp, qp⟩ := hp.ex
  refine ⟨_, pe_disp pp hall hlen h0 h15, fun F H E σ f Q ok a p n => ?_⟩
  obtain ⟨s1, o1⟩ := ok.newDct n
  refine qp [some (.dct [])] [some (.ref p)] F _ E σ _ _ rfl o1 ?_
  unfold mDisp at a
  cases hm : ms E with
  | bad => rw [hm] at a; exact a
  | exc c E' => rw [hm] at a; exact fun F' H' f' s o => a F' H' f' (s1.trans s) o
  | ok os E1 =>
    rw [hm, bind_ok] at a
    split at a
    · next hh =>
      obtain ⟨nd, l1, l2⟩ := hh
      intro F2 H2 vs f2 st2 lv o2
      have o2 : Ok X.K ad F2 H2 (some (.dct []) :: (os.map some ++ E1)) (some (.ref p) :: (vs.map some ++ σ)) f2 := o2
      have r := o2.rep
      cases r with
      | put q r =>
        cases q with
        | @dct _ _ ws fo h nd0 rk =>
          cases rk
          obtain ⟨fx, f3, rfl, r1, r2⟩ := RepE.split (by simp [lv]) r
          have rl := RepE.toL r1
          have hk2 : ∀ k : List Nat, kV (tk (.inr k)) = V.str ⟨k.toArray⟩ := fun _ => rfl
          refine ⟨h, (ks.map fun k => tk (.inr k)).zip vs, ?_, ?_, ?_⟩
          · unfold pz
            rw [List.zip_map_left, List.map_map]
            rfl
          · simp; omega
          · have hm2 : mergeK [] ((ks.map fun k => tk (.inr k)).zip vs) = (ks.map fun k => tk (.inr k)).zip vs := by
              have := mergeK_nodup ((ks.map fun k => tk (.inr k)).zip vs) [] (by
                rw [List.nil_append]
                have e : ((ks.map fun k => tk (.inr k)).zip vs).map (·.1) = ks.map fun k => tk (.inr k) := by
                  rw [List.map_fst_zip]
                  simp; omega
                rw [e]
                have : (ks.map fun k => tk (.inr k)) = (ks.map Sum.inr).map tk := by rw [List.map_map]; rfl
                rw [this]
                have n1 : (ks.map (Sum.inr : List Nat → KK)).Nodup := List.Pairwise.map _ (fun a b hab e => hab (Sum.inr.inj e)) nd
                exact List.Pairwise.map _ (fun a b hab e => hab (tk_inj e)) n1)
              simpa using this
            rw [hm2]
            have nd2 : (([p] ++ []) ++ (fx ++ f3)).Nodup := by simpa using o2.nd
            have w := Ok.write (n := .dK ((ks.map fun k => tk (.inr k)).zip vs)) (o := .dct []) (o' := .dct ((ks.map Sum.inr).zip os)) (res := .fz .non) (v := .non) (a := p) (fo := []) (fx := fx) (f2 := f3) (fr := []) (fo' := fx) o2.sub (by simpa using o2.nd) (fun z hz => o2.nf z (by simpa using hz)) (by rw [h]; simp) r2
              (fun z hz => rl.trk z (by simpa using hz)) (.fz .non) (by
                have := nodup_mid (a := p) (fo := []) (fx := fx) (f2 := f3) (by simpa using o2.nd)
                simpa using this) (fun z hz => by simpa using hz) fun H' kp ha => by
                refine .dct ha ?_ ((zip_rep rl l1).mono (Same.refl _) fun z hz u e => kp z u (fun e' => ?_) e)
                · rw [List.map_fst_zip (by simp; omega)]
                  exact List.Pairwise.map _ (fun a b hab e => hab (Sum.inr.inj e)) nd
                · subst e'
                  have := o2.nd
                  simp only [List.cons_append, List.nil_append, List.nodup_cons] at this
                  exact this.1 (List.mem_append_left _ hz)
            obtain ⟨g9, o9, s9⟩ := w.2.tl'
            have sw := w.1
            exact a _ _ (.ref p) g9 (s1.trans (st2.trans ((by simpa using sw : Step F2 H2 (p :: (fx ++ f3)) F2 _ _).trans s9))) o9
    · exact a.elim
end
/-! enumerate of a list or a tuple -/
def enumA : List O → Option (List D)
  | [a] => match a.toD with
    | .tup ds => some (enuP ds)
    | .lst ds => some (enuP ds)
    | _ => none
  | _ => none
def iEnumA (K : PySem.W.Frag) (ta : TA) : TI := fun σ H R => ta σ H fun vs H1 => ∃ a xs, vs = [.ref a] ∧ ((SqT K H1 a xs ∧ R (IteT K a) H1) ∨ (SqL K H1 a xs ∧ R (Ite K a) H1))
theorem pi_enumA {X : Cx} {e : Expr} {ta : TA} {p pos tpos : Pos} {elts : List Expr} {kk : Nat} (hg : Gl X "enumerate") (hm : X.mg "enumerate" = none) (ha : PA X [e] ta) (hs : starEach [e] X.env = [(false, eval e X.env)] := by rfl) :
    PI X (.Tuple elts kk tpos) (.Call (.Name "enumerate" p) [e] [] pos) (iEnumA X.K ta) := by
  refine ⟨fun pins s σ H R I h => ?_⟩
  refine Call_ (ld_blt I hg hm boot_enumerate (PyProof.Rows.callWith_type1 (thn (ha.run pos pins s σ H _ I h) fun us s1 ⟨vs, H1, I1, r1, q1⟩ => ?_) hs rfl))
  obtain ⟨a, xs, ex, q1⟩ := q1
  subst ex
  cases r1 with
  | cons r rr =>
    cases rr
    cases r
    have fre : ∀ b ∈ [s1.heap.objs.size + 1, s1.heap.objs.size], s1.heap.objs.size ≤ b := fun b hb => by
      have e' : b = s1.heap.objs.size + 1 ∨ b = s1.heap.objs.size := by simpa using hb
      rcases e' with z | z
      · rw [z]; exact Nat.le_add_right _ _
      · rw [z]; exact Nat.le_refl _
    rcases q1 with ⟨hq, q⟩ | ⟨hq, q⟩
    · obtain ⟨its, rv, p', hz⟩ := I1.tuple hq
      have hal : a < s1.heap.objs.size := by obtain ⟨o, ho, _⟩ := id p'; exact Heap.lt_size ho
      refine call_enumT p' fun h' he hit hsz hk => wpAny_pyIter_enum he ?_
      have I2 : Inv X pins σ H1 { s1 with heap := h' } := I1.kept (t' := s1.toks) hk
      exact ⟨s1.heap.objs.size + 1, [s1.heap.objs.size + 1, s1.heap.objs.size], _, _, H1, rfl, I2, turn_enumT a (s1.heap.objs.size + 1) s1.heap.objs.size, ⟨⟨.none, he⟩, hit, Nat.succ_ne_self _, Nat.ne_of_gt (Nat.lt_succ_of_lt hal), Nat.ne_of_lt hal⟩, fun b hb => I1.fpOk (fre b hb) (I1.hok.fresh (fre b hb)), q⟩
    · obtain ⟨its, rv, p', hz⟩ := I1.list hq
      refine call_enumerate_list p'.isList fun h' he hit hsz hk => wpAny_pyIter_enum he ?_
      have I2 : Inv X pins σ H1 { s1 with heap := h' } := I1.kept (t' := s1.toks) hk
      exact ⟨s1.heap.objs.size + 1, [s1.heap.objs.size + 1, s1.heap.objs.size], _, _, H1, rfl, I2, turn_enum a (s1.heap.objs.size + 1) s1.heap.objs.size, ⟨⟨.none, he⟩, hit, Nat.succ_ne_self _⟩, fun b hb => I1.fpOk (fre b hb) (I1.hok.fresh (fre b hb)), q⟩
section
variable {X : Cx} {ad : Nat → Addr} {W : WX} {tg e : Expr} {m : M O}
theorem i_enumA {elts : List Expr} {kk : Nat} {p pos tpos : Pos} {ms : M (List O)} (hm : X.mg "enumerate" = none) (ha : SA X ad W [e] ms) (hg : Gl X "enumerate" := by rfl)
    (hs : starEach [e] X.env = [(false, eval e X.env)] := by rfl) :
    SI X ad W (.Tuple elts kk tpos) (.Call (.Name "enumerate" p) [e] [] pos) (iArgs enumA ms) := by
  obtain ⟨ta, pa, qa⟩ := ha.ex
  refine ⟨_, pi_enumA hg hm pa hs, args_core (es := [e]) (R0 := fun R vs H1 => ∃ a xs, vs = [.ref a] ∧ ((SqT X.K H1 a xs ∧ R (IteT X.K a) H1) ∨ (SqL X.K H1 a xs ∧ R (Ite X.K a) H1))) qa fun F H os vs E σ f ds R ok hl hg q => ?_⟩
  obtain ⟨F1, f1, s1, o1, r1⟩ := Ok.freezeL hl.symm ok
  unfold enumA at hg
  split at hg
  · next x =>
    simp only [O.toDs] at r1
    match vs, hl, r1 with
    | [v], hl, .cons i1 .nil =>
      split at hg
      · next xs h1 =>
        cases hg
        rw [h1] at i1
        cases i1 with
        | @tup a _ va ha ra =>
          refine ⟨a, va, rfl, .inl ⟨Same.sqT o1.sub ha, q F1 H f1 _ s1 o1 (wk_pair (walk_enumT (K := X.K) (a := a) (xs := va)) ((enuP_len xs).trans ra.length) (fun F2 H2 s2 s3 => Same.sqT s3 (Same.sqT s2 ha)) fun i x y e1 e2 => ?_)⟩⟩
          obtain ⟨d, g1, g2⟩ := ra.getV e2
          cases e1
          exact ⟨_, d, enuP_at xs i d g1, .int _, g2⟩
      · next xs h1 =>
        cases hg
        rw [h1] at i1
        cases i1 with
        | @lst a _ va ha ra =>
          refine ⟨a, va, rfl, .inr ⟨.inl (.inl (o1.sub _ _ ha)), q F1 H f1 _ s1 o1 (wk_pair (walk_enum (K := X.K) (a := a) (xs := va)) ((enuP_len xs).trans ra.length) (fun F2 H2 s2 s3 => .inl (.inl (s3 _ _ (s2 _ _ ha)))) fun i x y e1 e2 => ?_)⟩⟩
          obtain ⟨d, g1, g2⟩ := ra.getV e2
          cases e1
          exact ⟨_, d, enuP_at xs i d g1, .int _, g2⟩
      · cases hg
  · cases hg
end
/-! a, b, .. = a list -/
def tUnl (ts : List Mt) : Mt := fun o E => match o.toD with
  | .lst ds => match tGo ts ds E with
    | some E' => .ok () E'
    | none => .bad
  | _ => .bad
section
variable {X : Cx} {ad : Nat → Addr} {W : WX} {sl : List Nat} {es : List Expr} {pos : Pos} {ts : List Mt}
theorem g_unl {k : Nat} (hc : X.calm = true) (h : SGs X ad W sl es ts) (hn : (assignEach es X.env).length = ts.length := by rfl) (hst : (assignEach es X.env).findIdx? (·.1) = none := by rfl) : SG X ad W sl (.Tuple es k pos) (tUnl ts) := by
  obtain ⟨g, pg, qg⟩ := h.ex
  refine ⟨_, pg_unl hc pg hn hst, fun F H E σ f o v Q ok q => ?_⟩
  obtain ⟨F1, f1, s1, o1, _⟩ := Ok.freeze (o := o) (v := v) (E := E) (S := σ) ok
  have hI := o1.head
  obtain ⟨f2, o2, s2⟩ := o1.tl'
  unfold tUnl at q
  generalize o.toD = dd at q hI o2
  cases dd with
  | lst ds =>
    cases hI with
    | @lst a _ xs hs r =>
      cases hg : tGo ts ds E with
      | none => simp only [hg] at q
      | some E' =>
        simp only [hg] at q
        exact ⟨a, xs, rfl, .inl (.inl (o2.sub _ _ hs)), by rw [← r.length]; exact tGo_len hg, qg F1 H E σ f2 ds xs E' Q o2 r hg fun F' H' σ' f' s o p => q F' H' σ' f' (s1.trans (s2.trans s)) o p⟩
  | _ => exact q.elim
end
end Mn

set_option Elab.async false
set_option linter.all false
set_option maxRecDepth 100000
set_option maxHeartbeats 4000000
namespace Mn
open PySem PySem.Spec PyProof.Rows L2
/-! sorted of a tuple of texts -/
section
variable {X : Cx}
def rSortTS (K : PySem.W.Frag) : List V → Hp → VK → Prop := fun xs H Q => ∃ (a : Addr) (ks : List Str), xs = [.ref a] ∧ SqT K H a (ks.map V.str) ∧ ks.length < 64 ∧ ∀ ys p, ys.Perm ks → sortedS ys = true → H p = none → Q (.ref p) (upd H p (.lst (ys.map V.str)))
theorem call_sortedTS : CallR X (.builtin "sorted") (rSortTS X.K) := by
  intro pins s σ H xs us Q I r q
  obtain ⟨a, ks, ex, hd, h64, q⟩ := q
  subst ex
  obtain ⟨u, eu, rx⟩ := vals1 r
  subst eu
  cases rx
  obtain ⟨its, rv, pl, hz⟩ := I.tuple hd
  obtain ⟨o, ho, hc, n, hdat⟩ := pl
  have hlen0 := rv.length
  rw [List.length_map] at hlen0
  have hS := rv.strs
  refine Calls.call_function_entry PyProof.Rows.kind_sorted PyProof.Rows.plain_sorted PyProof.Rows.entry_sorted (PyProof.Rows.args_sorted1 _) ?_
  unfold Builtin.«sorted»
  refine wpAny_bind (m := checkCount "sorted" 1 1 _) (wpAny_pure ?_)
  refine wpAny_bind (wpAny_collect_seq a (.inr rfl) ho hc hdat (fun h' hk => ?_) (by rw [List.size_toArray, ← hlen0]; rw [sizeLine_eq]; omega))
  have hal : its.toArray.toList.length = ks.length := by simp [hlen0]
  have I1 : Inv X pins σ H { s with heap := h' } := I.kept (t' := s.toks) hk
  refine wpAny_bind (wpAny_newList ?_ (by rw [hal, sizeLine_eq]; omega))
  have hoL : (h'.push (seqObj "list" its.toArray.toList.toArray 0)).get? h'.objs.size = some (seqObj "list" its.toArray.toList.toArray 0) := Heap.get?_push_size _ rfl
  show wpAny _ _ _ _ _ { s with heap := h'.push (seqObj "list" its.toArray.toList.toArray 0), toks := s.toks }
  have hS' : StrsAre its.toArray.toList ks := by simpa using hS
  refine wpAny_bind (wpAny_holding (wpAny_call_entry PyProof.Rows.slot_list_sort ⟨_, hoL, rfl⟩ PyProof.Rows.entry_list_sort
    (list_sort_treeK strKind_oneLt (s := { s with heap := h'.push (seqObj "list" its.toArray.toList.toArray 0), toks := s.toks }) hoL hS'.keysOf (fun v₁ v₂ rest e => keyKind_strs (by rw [← e]; exact hS')) (by rw [hal]; exact h64) fun st' hp hs => ⟨_, rfl, ?_⟩)
    (PyProof.Rows.args_list_sort _)))
  obtain ⟨ys, g1, g2, g3⟩ := sorted_out_str hS' hp hs
  obtain ⟨e', he'⟩ := PyProof.Rows.sortedHeap_at (vs := its.toArray.toList) (out := (arrOf st').map (·.2)) hoL
  have hlen : (ys.map V.str).length ≤ sizeLine := by
    rw [List.length_map, g2.length_eq]
    exact Nat.le_trans (Nat.le_of_lt h64) (by decide)
  refine wpAny_pure ⟨_, rfl, .ref h'.objs.size, upd H h'.objs.size (.lst (ys.map V.str)), I1.laid (t' := s.toks) (fun b u e => ?_) (Nat.le_refl _)
    (show ObjOk X.prog X.w _ _ _ (.lst (ys.map V.str)) from ⟨hlen, ((arrOf st').map (·.2)).toList, e', vals_of_strs g1, by rw [Array.toArray_toList]; exact he'⟩), rfl, q ys _ g2 g3 (I1.hok.fresh (Nat.le_refl _))⟩
  have hb : b < h'.objs.size := Heap.lt_size e
  rw [PyProof.Rows.sortedHeap_old (Nat.ne_of_lt hb) (by rw [size_push']; exact Nat.lt_succ_of_lt hb)]
  exact Heap.get?_push_of_some _ e
def oSortedA : D → Option O
  | .tup ds => match strsOf ds with
    | some ss => if ss.length < 64 then some (.lst ((srtS ss).map fun n => .fz (.str n))) else none
    | none => none
  | d => oSorted d
def pSortedA : List O → Option O := fun os => match os with
  | [a] => oSortedA a.toD
  | _ => none
theorem oSA_eq (d : D) (h : ∀ ds, d ≠ .tup ds) : oSortedA d = oSorted d := by
  cases d with
  | tup ds => exact absurd rfl (h ds)
  | non => rfl
  | bl b => rfl
  | int i => rfl
  | str s => rfl
  | lst xs => rfl
  | dct k => rfl
  | fn i => rfl
  | scr n => rfl
theorem pSA_eq {os : List O} (ht : ¬ ∃ o ds, os = [o] ∧ o.toD = .tup ds) : pSortedA os = pSorted os := by
  match os, ht with
  | [], _ => rfl
  | [a], ht => exact oSA_eq a.toD fun ds hd => ht ⟨a, ds, rfl, hd⟩
  | _ :: _ :: _, _ => rfl
theorem c_sortedA (hc : X.calm = true) : CallR X (.builtin "sorted") (fun xs H Q => rSort3 X.K xs H Q ∨ rSortTS X.K xs H Q) := (c_sorted hc).or call_sortedTS
theorem k_sortedA {ad : Nat → Addr} : Prm X ad (fun xs H Q => rSort3 X.K xs H Q ∨ rSortTS X.K xs H Q) pSortedA := by
  refine ⟨fun F H os vs E σ f Q ok hl q => ?_⟩
  by_cases ht : ∃ o ds, os = [o] ∧ o.toD = .tup ds
  · obtain ⟨o0, ds, rfl, hd⟩ := ht
    match vs, hl, ok with
    | [v], hl, ok =>
      obtain ⟨F4, f4, s4, o4, _⟩ := Ok.freeze (o := o0) (v := v) (E := E) (S := σ) ok
      have iv := o4.head
      obtain ⟨f5, o5, s5⟩ := o4.tl'
      simp only [pSortedA, hd, oSortedA] at q
      rw [hd] at iv
      cases iv with
      | @tup a _ vs' hs r =>
        cases hss : strsOf ds with
        | none => simp only [hss] at q
        | some ss =>
          simp only [hss] at q
          by_cases h64 : ss.length < 64
          · simp only [if_pos h64] at q
            refine .inr ⟨a, ss.map mk, rfl, by rw [← strs_ok r hss]; exact Same.sqT o5.sub hs, by rw [List.length_map]; exact h64, fun ys p h1 h2 n => ?_⟩
            rw [srtS_eq h1 h2]
            obtain ⟨s2, o2⟩ := lay_lst o5 (IsL.strs (srtS ss)) n
            rw [show ((srtS ss).map D.str).map O.fz = (srtS ss).map (fun n => O.fz (D.str n)) by simp [List.map_map]] at o2
            exact q _ _ _ _ (s4.trans (s5.trans s2)) o2
          · simp only [if_neg h64] at q
  · have e : pSortedA os = pSorted os := pSA_eq ht
    rw [e] at q
    exact .inl (k_sorted.ok F H os vs E σ f Q ok hl q)
end
/-! the Hook, with one Bool more -/
abbrev AlM : Type := He.AlD × Bool
def obsM (fa : List He.Fa) (fn : List He.DefD) (ex : PySem.W.Frag → Bool) (K : PySem.W.Frag) : AlM := (He.obsD fa fn K, ex K)
def valM (fn : List He.DefD) : AlM := (He.valD fn, true)
structure SaysM (fa : List He.Fa) (fn : List He.DefD) (ex : PySem.W.Frag → Bool) (K : PySem.W.Frag) : Prop where
  d : He.SaysD fa fn K
  x : ex K = true
def obsMG (n : Nat) (fa : List He.Fa) (fn : List He.DefD) (ex : PySem.W.Frag → Bool) (g : Addr → Option Obj) : AlM := obsM fa fn ex (He.frG g (He.asD g n))
def hookM (n : Nat) (fa : List He.Fa) (fn : List He.DefD) (ex : PySem.W.Frag → Bool) : PySem.W.Hook where
  α := AlM
  obs := fun s => obsMG n fa fn ex s.heap.get?
  val := fun _ => valM fn
  says := fun _ h => ∃ K : PySem.W.Frag, K.In h ∧ SaysM fa fn ex K
  of := fun _ _ e => ⟨_, He.frG_in, congrArg (fun z : AlM => z.1) e, congrArg (fun z : AlM => z.2) e⟩
  keeps := fun _ _ _ ⟨K, hK, c⟩ k => ⟨K, PySem.W.Frag.In.keeps hK k, c⟩
theorem obsMG_eq {n : Nat} {fa : List He.Fa} {fn : List He.DefD} {ex : PySem.W.Frag → Bool} {g : Addr → Option Obj} {s : Shared} (h : ∀ a, g a = s.heap.get? a) : obsMG n fa fn ex g = (hookM n fa fn ex).obs s := by
  have e : g = s.heap.get? := funext h
  rw [e] <;> rfl
end Mn

set_option Elab.async false
set_option linter.all false
set_option maxRecDepth 100000
set_option maxHeartbeats 4000000
/-! a local list given back; a value made data; a call that only looks at what names hold; a test for an item of a dict's list -/
namespace Mn
open PySem PySem.Spec PyProof.Rows L2
section
variable {X : Cx} {ad : Nat → Addr} {W : WX} {e b : Expr} {es : List Expr} {m : M O} {ms : M (List O)} {φ : List O → Cr} {np : Nat} {x : Str} {p pos : Pos}
/-- the name's own object, and the name holds nothing that is known -/
def mTake (i : Nat) : M O := fun E => match E[i]? with
  | some (some o) => .ok o (E.set i none)
  | _ => .bad
theorem s_take (i : Nat) (hN : X.N[i]? = some x := by rfl) (hv : Vis X.env.scope x := by first | exact Or.inl rfl | exact Or.inr (Or.inl rfl) | exact Or.inr (Or.inr rfl)) (hd : (x == ("__debug__" : Str)) = false := by decide)
    (hcd : (x == ("__classdict__" : Str)) = false := by decide) : SE X ad W (.Name x pos) (mTake i) := by
  refine ⟨_, pe_var hN hv hd hcd, fun F H E σ f Q ok a => ?_⟩
  unfold mTake at a
  split at a
  · next o e =>
    obtain ⟨v, g, h1, o1, hm⟩ := ok.take e
    exact ⟨v, h1, a F H v g (Step.perm fun x hx => (hm x).mp hx) o1⟩
  · exact a.elim
def mFz (m : M O) : M O := fun E => (m E).bind fun o E1 => .ok (.fz o.toD) E1
theorem s_fz (h : SE X ad W e m) : SE X ad W e (mFz m) := by
  obtain ⟨te, p, q⟩ := h.ex
  refine ⟨te, p, fun F H E σ f Q ok a => q F H E σ f Q ok ?_⟩
  unfold mFz at a
  cases hm : m E with
  | bad => rw [hm] at a; exact a
  | exc c E' => rw [hm] at a; exact a
  | ok o E1 =>
    rw [hm, bind_ok] at a
    intro F1 H1 v f1 s1 o1
    obtain ⟨F2, f2, s2, o2, hm2⟩ := o1.freeze
    exact a F2 H1 v f2 (s1.trans s2) o2
mutual
def pureO : O → Bool
  | .fz d => d.flat
  | .lst xs => pureL xs
  | _ => false
def pureL : List O → Bool
  | [] => true
  | x :: xs => pureO x && pureL xs
end
section
variable {K : PySem.W.Frag} {F F' H : Hp}
theorem flat_any {d : D} {v : V} (h : d.flat = true) (r : Is K ad F d v) : Is K ad F' d v := by
  cases r with
  | non => exact .non
  | bl b => exact .bl b
  | int i => exact .int i
  | str s => exact .str s
  | _ => cases h
mutual
theorem Rep.pureAny : ∀ {o : O} {v : V} {fp : List Addr}, pureO o = true → Rep K ad F H o v fp → Rep K ad F' H o v fp
  | _, _, _, h, .fz r => .fz (flat_any (by unfold pureO at h; exact h) r)
  | _, _, _, h, .lst a r => .lst a (RepL.pureAny (by unfold pureO at h; exact h) r)
  | _, _, _, h, .dct _ _ _ => by unfold pureO at h; cases h
  | _, _, _, h, .ptp _ _ _ => by unfold pureO at h; cases h
theorem RepL.pureAny : ∀ {o : List O} {v : List V} {fp : List Addr}, pureL o = true → RepL K ad F H o v fp → RepL K ad F' H o v fp
  | _, _, _, _, .nil => .nil
  | _, _, _, h, .cons r rs => by
    unfold pureL at h
    rw [Bool.and_eq_true] at h
    exact .cons (Rep.pureAny h.1 r) (RepL.pureAny h.2 rs)
end
end
/-- what names hold -/
def getN (E : En) : List Nat → Option (List O)
  | [] => some []
  | j :: r => match E[j]? with
    | some (some o) => (getN E r).map (o :: ·)
    | _ => none
def mCallN (φ : List O → Cr) (js : List Nat) : M O := fun E => match getN E js with
  | some os => match φ (os.map fun o => .fz o.toD) with
    | .ok o _ => if pureO o = true then .ok o E else .bad
    | _ => .bad
  | none => .bad
/-- names as arguments -/
structure SN (X : Cx) (es : List Expr) (js : List Nat) : Prop where
  ex : ∃ ta, PA X es ta ∧ es.length = js.length ∧ ∀ σ H (Q : List V → Hp → Prop) (vs : List V), js.map (fun j => σ[j]?) = vs.map (fun v => some (some v)) → Q vs H → ta σ H Q
theorem sn_nil : SN X [] [] := ⟨_, pa_nil, rfl, fun σ H Q vs h q => by
  cases vs with
  | nil => exact q
  | cons v vs => cases h⟩
theorem sn_cons {js : List Nat} (i : Nat) (hr : SN X es js) (hN : X.N[i]? = some x := by rfl) (hv : Vis X.env.scope x := by first | exact Or.inl rfl | exact Or.inr (Or.inl rfl) | exact Or.inr (Or.inr rfl)) (hd : (x == ("__debug__" : Str)) = false := by decide)
    (hcd : (x == ("__classdict__" : Str)) = false := by decide) (hs : starEach (.Name x p :: es) X.env = (false, eval (.Name x p) X.env) :: starEach es X.env := by rfl) : SN X (.Name x p :: es) (i :: js) := by
  obtain ⟨ta, pa, hl, q⟩ := hr.ex
  refine ⟨_, pa_cons (pe_var hN hv hd hcd) pa hs, by simp [hl], fun σ H Q vs h z => ?_⟩
  cases vs with
  | nil => cases h
  | cons v vs =>
    simp only [List.map_cons, List.cons.injEq] at h
    exact ⟨v, h.1, q σ H _ vs h.2 z⟩
theorem getN_ok {K : PySem.W.Frag} {F H : Hp} {E : En} {σ : L2.St} {f : List Addr} (ok : Ok K ad F H E σ f) {F1 : Hp} (sF : Same F F1) (inF : ∀ a ∈ f, ∀ u, H a = some u → F1 a = some u) : ∀ (js : List Nat) (os : List O), getN E js = some os → ∃ vs : List V, js.map (fun j => σ[j]?) = vs.map (fun v => some (some v)) ∧ IsL K ad F1 (os.map O.toD) vs ∧ vs.length = js.length
  | [], os, h => by
    cases h
    exact ⟨[], rfl, .nil, rfl⟩
  | j :: r, os, h => by
    unfold getN at h
    split at h
    · next o ho =>
      cases hr : getN E r with
      | none => rw [hr] at h; cases h
      | some os' =>
        rw [hr] at h
        cases h
        obtain ⟨vs, h1, h2, h3⟩ := getN_ok ok sF inF r os' hr
        obtain ⟨v, f1, f2, e1, e2, _, pm, _⟩ := ok.rep.at ho
        exact ⟨v :: vs, by simp [e1, h1], .cons (e2.frz sF fun a ha u e => inF a (pm.mem_iff.mp (List.mem_append_left _ ha)) u e) h2, by simp [h3]⟩
    · cases h
theorem s_callN {js : List Nat} (c : Cal X.prog X.w X.K X.mg X.base X.A ad x np φ) (tk : Takes X W) (ha : SN X (e :: es) js) (hn : (e :: es).length = np) (hg : Gl X x := by rfl) (hdb : (x == ("__debug__" : Str)) = false := by decide)
    (he : starEach (e :: es) X.env = (false, eval e X.env) :: starEach es X.env := by rfl) (hpl : (backTo pos (starEach es X.env)).any (·.1) = false := by rfl) : SE X ad W (.Call (.Name x p) (e :: es) [] pos) (mCallN φ js) := by
  obtain ⟨k, fa, fd, ps, F, hr, hm, hk, hb⟩ := c.ex
  obtain ⟨ta, pa, hl, qa⟩ := ha.ex
  refine ⟨_, pe_callS F hr hg hm hk hb (fun σ => passAt tk σ) pa hdb he hpl, fun F0 H E σ f Q ok q => ?_⟩
  unfold mCallN at q
  split at q
  case h_2 => exact q.elim
  next os hos =>
  let F1 : Hp := fun b => if b ∈ f then H b else F0 b
  have sF : Same F0 F1 := fun b u e => by
    show (if b ∈ f then H b else F0 b) = some u
    by_cases hb : b ∈ f
    · rw [ok.nf b hb] at e; cases e
    · rw [if_neg hb]; exact e
  have inF : ∀ a ∈ f, ∀ u, H a = some u → F1 a = some u := fun a ha u e => by
    show (if a ∈ f then H a else F0 a) = some u
    rw [if_pos ha]; exact e
  have sH : Same F1 H := fun b u e => by
    have e' : (if b ∈ f then H b else F0 b) = some u := e
    by_cases hb : b ∈ f
    · rw [if_pos hb] at e'; exact e'
    · rw [if_neg hb] at e'; exact ok.sub b u e'
  obtain ⟨vs, h1, h2, h3⟩ := getN_ok ok sF inF js os hos
  refine qa σ H _ vs h1 ?_
  have hol : os.length = vs.length := by simpa using h2.length
  have okA : Ok X.K ad F1 H ((os.map fun o => O.fz o.toD).map some) (vs.map some) [] := by
    refine ⟨sH, ?_, List.nodup_nil, fun a ha => absurd ha (by simp)⟩
    have := RepE.ofL (RepL.ofIs (H := H) h2)
    simpa [List.map_map, Function.comp_def] using this
  refine ⟨F1, os.map fun o => O.fz o.toD, [], by simp [hol], by rw [List.length_map, hol, h3, ← hl, hn], okA, ?_⟩
  cases hφ : φ (os.map fun o => O.fz o.toD) with
  | exc c => rw [hφ] at q; exact q.elim
  | bad => rw [hφ] at q; exact q.elim
  | ok o s =>
    rw [hφ] at q
    simp only at q
    by_cases hp : pureO o = true
    · rw [if_pos hp] at q
      intro F' H' v f' st o'
      have r := o'.rep
      cases r with
      | put ro rr =>
        rename_i fo fr
        let F2 : Hp := fun b => if b ∈ f then none else F' b
        have hsub : ∀ b ∈ fo, b ∈ fo ++ fr := fun b hb => List.mem_append_left _ hb
        have keep : ∀ b u, H b = some u → H' b = some u := fun b u e => st.h b u e (by simp)
        have hn' : ∀ a ∈ fo, H a = none := fun a ha => by
          rcases st.n a (hsub a ha) with z | z
          · simp at z
          · exact z
        have s2 : Step F0 H f F2 H' (fo ++ f) := by
          refine ⟨fun b u e => ?_, fun b o e hb => keep b o e, fun b o e hb hn => ?_, st.t, fun a ha => ?_⟩
          · show (if b ∈ f then none else F' b) = some u
            by_cases hb : b ∈ f
            · rw [ok.nf b hb] at e; cases e
            · rw [if_neg hb]; exact st.f b u (sF b u e)
          · show (if b ∈ f then none else F' b) = none
            rw [if_neg hb]
            refine st.g b o e (by simp) ?_
            show (if b ∈ f then H b else F0 b) = none
            rw [if_neg hb]; exact hn
          · rcases List.mem_append.mp ha with z | z
            · exact .inr (hn' a z)
            · exact .inl z
        refine q F2 H' v (fo ++ f) s2 ⟨fun b u e => ?_, .put (ro.pureAny hp) (ok.rep.mono s2.f fun a ha u e => keep a u e), ?_, fun a ha => ?_⟩
        · have e' : (if b ∈ f then none else F' b) = some u := e
          by_cases hb : b ∈ f
          · rw [if_pos hb] at e'; cases e'
          · rw [if_neg hb] at e'; exact o'.sub b u e'
        · refine List.nodup_append.mpr ⟨(List.nodup_append.mp o'.nd).1, ok.nd, fun a h1 b h2 e => ?_⟩
          subst e
          obtain ⟨u, eu⟩ := ok.rep.trk a h2
          rw [hn' a h1] at eu; cases eu
        · show (if a ∈ f then none else F' a) = none
          by_cases hb : a ∈ f
          · rw [if_pos hb]
          · rw [if_neg hb]
            rcases List.mem_append.mp ha with z | z
            · exact o'.nf a (hsub a z)
            · exact absurd z hb
    · rw [if_neg hp] at q; exact q.elim
end
/-! a in d[k], where the dict stays its name's own -/
def mInAt (g : D → D → Option D) (ma : M O) (i : Nat) (mk : M O) : M O := fun E => (ma E).bind fun a E1 => match E1[i]? with
  | some (some _) => (mk E1).bind fun k E2 => match E2[i]? with
    | some (some o) => match itemD o.toD k.toD with
      | some d' => match g a.toD d' with
        | some d => .ok (.fz d) E2
        | none => .bad
      | none => .bad
    | _ => .bad
  | _ => .bad
section
variable {X : Cx} {ad : Nat → Addr} {W : WX} {a b : Expr} {ma mk : M O} {r : R2} {g : D → D → Option D} {x : Str} {px spos pos : Pos} {op : CmpOp}
theorem inAt_core {ta tb : TE} {i : Nat} (qa : ∀ F H E σ f Q, Ok X.K ad F H E σ f → Aft X.K ad W [] [] F H f σ (ma E) Q → ta σ H Q)
    (qb : ∀ P PS F H E σ f Q, P.length = PS.length → Ok X.K ad F H (P ++ E) (PS ++ σ) f → Aft X.K ad W P PS F H f σ (mk E) Q → tb σ H Q) (p : BPrm X ad r g) :
    ∀ F H E σ f Q, Ok X.K ad F H E σ f → Aft X.K ad W [] [] F H f σ (mInAt g ma i mk E) Q → tOp r ta (tOp (rItem X.K) (tVar i) tb) σ H Q := by
  intro F H E σ f Q ok q
  refine qa F H E σ f _ ok ?_
  unfold mInAt at q
  cases hm : ma E with
  | exc c E1 => rw [hm] at q; exact fun F' H' f' s o => q F' H' f' s o
  | bad => rw [hm] at q; exact q
  | ok x E1 =>
    rw [hm, bind_ok] at q
    intro F1 H1 v f1 s1 o1
    split at q
    case h_2 => exact q.elim
    next o0 h0 =>
    obtain ⟨f2, o2, s2⟩ := o1.tl'
    obtain ⟨u0, hu0, _⟩ := RepE.isAt o2 h0
    refine ⟨u0, hu0, ?_⟩
    refine qb [some x] [some v] F1 H1 E1 σ f1 _ rfl o1 ?_
    cases hk : mk E1 with
    | exc c E2 => rw [hk] at q; exact fun F' H' f' s o => q F' H' f' (s1.trans s) o
    | bad => rw [hk] at q; exact q
    | ok k E2 =>
      rw [hk, bind_ok] at q
      intro F2 H2 y f3 s3 o3
      have o3 : Ok X.K ad F2 H2 (some x :: some k :: E2) (some v :: some y :: σ) f3 := o3
      have ix := o3.isHead
      obtain ⟨f4, o4, s4⟩ := o3.tl'
      have iy := o4.isHead
      obtain ⟨f5, o5, s5⟩ := o4.tl'
      split at q
      case h_2 => exact q.elim
      next o ho =>
      obtain ⟨u, hu, ru⟩ := RepE.isAt o5 ho
      have hw : u0 = u := by rw [hu0] at hu; simpa using hu
      subst hw
      split at q
      case h_2 => exact q.elim
      next d' hd' =>
      split at q
      case h_2 => exact q.elim
      next d hd =>
      obtain ⟨w, iw, kw⟩ := item_ok ru iy hd'
      refine kw H2 (Same.refl _) _ ?_
      exact p.ok H2 x.toD d' v w d Q ix iw hd fun z hz => q F2 H2 z f5 (s1.trans (s3.trans (s4.trans s5))) (o5.dat (hz F2))
theorem s_inAt (i : Nat) (hu : X.A.units + 65 < cLine) (ho : OpR X (compareOp op) r) (p : BPrm X ad r g) (ha : SE X ad W a ma) (hb : SE X ad W b mk) (hN : X.N[i]? = some x) (hv : Vis X.env.scope x) (hd : (x == ("__debug__" : Str)) = false := by decide) (hcd : (x == ("__classdict__" : Str)) = false := by decide)
    (hs : PlainIx b := by exact fun _ _ => rfl) (hm : behindInMarks op (.Subscript (.Name x px) b spos) = false := by first | exact nomark _ | rfl) : SE X ad W (.Compare a [op] [.Subscript (.Name x px) b spos] pos) (mInAt g ma i mk) := by
  obtain ⟨ta, pa, qa⟩ := ha.ex
  obtain ⟨tb, pb, qb⟩ := hb.run
  exact ⟨_, pe_cmpR ho pa (pe_ix (ix_item hu) (pe_var hN hv hd hcd) pb hs) hm, inAt_core qa qb p⟩
theorem t_inAt (i : Nat) (hu : X.A.units + 65 < cLine) (ho : OpR X (compareOp op) r) (p : BPrm X ad r g) (ha : SE X ad W a ma) (hb : SE X ad W b mk) (hN : X.N[i]? = some x) (hv : Vis X.env.scope x) (hd : (x == ("__debug__" : Str)) = false := by decide) (hcd : (x == ("__classdict__" : Str)) = false := by decide)
    (hs : PlainIx b := by exact fun _ _ => rfl) (hm : behindInMarks op (.Subscript (.Name x px) b spos) = false := by first | exact nomark _ | rfl) : ST X ad W (.Compare a [op] [.Subscript (.Name x px) b spos] pos) (mAsB (mInAt g ma i mk)) := by
  obtain ⟨ta, pa, qa⟩ := ha.ex
  obtain ⟨tb, pb, qb⟩ := hb.run
  exact ⟨_, pt_cmpR ho pa (pe_ix (ix_item hu) (pe_var hN hv hd hcd) pb hs) hm, asB_core (inAt_core qa qb p)⟩
end
end Mn

set_option Elab.async false
set_option linter.all false
set_option maxRecDepth 100000
set_option maxHeartbeats 4000000
/-! defs that change what their first and their last argument hold -/
namespace Mn
open PySem PySem.Spec PyProof.Rows L2
/-- how a call of such a def ends: both objects stand in a list -/
def spOf2 (K : PySem.W.Frag) (ad : Nat → Addr) (np : Nat) (φ : List O → Cr) : Sp := fun vs H Q Ex => ∃ F os f, vs.length = os.length ∧ os.length = np ∧ Ok K ad F H (os.map some) (vs.map some) f ∧ match φ os with
  | .ok o (some (.lst [s, t])) => ∀ F' H' v f', Step F H f F' H' f' → Ok K ad F' H' [some o, some s, some t] [some v, vs.head?, vs.getLast?] f' → Q v H'
  | .exc c => ∀ F' H', Step F H f F' H' [] → Same F' H' → Ex (.ref (ad c)) none H'
  | _ => False
def spN (two : Bool) (K : PySem.W.Frag) (ad : Nat → Addr) (np : Nat) (φ : List O → Cr) : Sp := match two with
  | true => spOf2 K ad np φ
  | false => spOf K ad np φ
structure Cal2 (P : Program) (w : World) (K : PySem.W.Frag) (mg : Str → Option Value) (base : Heap) (A : Around) (ad : Nat → Addr) (x : Str) (np : Nat) (φ : List O → Cr) : Prop where
  ex : ∃ k f fd ps, FnOk P w K mg base (L2.CX P w) k f fd ps (spOf2 K ad np φ) ∧ Room k A ∧ mg x = some (.ref f) ∧ PySem.W.keepIn K (.ref f) = true ∧ Binds K fd ps []
def outs (E : En) (m : Nat) : Option (O × O) := match E[0]?, E[m]? with
  | some (some s), some (some t) => some (s, t)
  | _, _ => none
theorem outs_eq {E : En} {m : Nat} {s t : O} (h : outs E m = some (s, t)) : E[0]? = some (some s) ∧ E[m]? = some (some t) := by
  unfold outs at h
  split at h
  · next e0 e1 => cases h; exact ⟨e0, e1⟩
  · cases h
def pairO (E : En) (i j : Nat) : Option (O × O) := match E[i]?, E[j]? with
  | some (some s), some (some t) => some (s, t)
  | _, _ => none
theorem pairO_eq {E : En} {i j : Nat} {s t : O} (h : pairO E i j = some (s, t)) : E[i]? = some (some s) ∧ E[j]? = some (some t) := by
  unfold pairO at h
  split at h
  · next e0 e1 => cases h; exact ⟨e0, e1⟩
  · cases h
def fnOf2 (n : Nat) (b : Ms) : List O → Cr := fun os => match b (os.map some ++ List.replicate n none) with
  | .ret o E => match outs E (os.length - 1) with
    | some (s, t) => .ok o (some (.lst [s, t]))
    | none => .bad
  | .exc c _ => .exc c
  | _ => .bad
section
variable {K : PySem.W.Frag} {ad : Nat → Addr} {F H : Hp} {f : List Addr}
theorem Ok.comm {E1 E2 E : En} {S1 S2 S : L2.St} (h1 : E1.length = S1.length) (h2 : E2.length = S2.length) (ok : Ok K ad F H (E1 ++ (E2 ++ E)) (S1 ++ (S2 ++ S)) f) : ∃ g, Ok K ad F H (E2 ++ (E1 ++ E)) (S2 ++ (S1 ++ S)) g ∧ ∀ x, x ∈ g ↔ x ∈ f := by
  obtain ⟨f1, f2, rfl, r1, r2⟩ := RepE.split h1 ok.rep
  obtain ⟨f3, f4, rfl, r3, r4⟩ := RepE.split h2 r2
  have pm : (f3 ++ (f1 ++ f4)).Perm (f1 ++ (f3 ++ f4)) := by
    rw [← List.append_assoc, ← List.append_assoc]
    exact List.Perm.append_right _ List.perm_append_comm
  exact ⟨f3 ++ (f1 ++ f4), ⟨ok.sub, RepE.append r3 (RepE.append r1 r4), pm.nodup_iff.mpr ok.nd, fun a ha => ok.nf a (pm.mem_iff.mp ha)⟩, fun x => pm.mem_iff⟩
theorem end_ok2 {o s t : O} {v : V} {E : En} {σ : L2.St} {vs : List V} {m : Nat} (ok : Ok K ad F H (some o :: E) (some v :: σ) f) (hm : m ≠ 0) (hs : E[0]? = some (some s)) (ht : E[m]? = some (some t)) (h0 : σ[0]? = some vs.head?) (h1 : σ[m]? = some vs.getLast?) :
    ∃ g, Ok K ad F H [some o, some s, some t] [some v, vs.head?, vs.getLast?] g ∧ ∀ x ∈ g, x ∈ f := by
  obtain ⟨vt, g1, e1, o1, m1⟩ := ok.take (i := m + 1) (o := t) (by simpa using ht)
  have e1' : vs.getLast? = some vt := by
    have : σ[m]? = some (some vt) := by simpa using e1
    rw [h1] at this
    exact Option.some.inj this
  have o1 : Ok K ad F H (some t :: some o :: E.set m none) (some vt :: some v :: σ) g1 := by simpa using o1
  have hs' : (E.set m none)[0]? = some (some s) := by rw [List.getElem?_set_ne hm]; exact hs
  obtain ⟨vs0, g2, e2, o2, m2⟩ := o1.take (i := 2) (o := s) (by simpa using hs')
  have e2' : vs.head? = some vs0 := by
    have : σ[0]? = some (some vs0) := by simpa using e2
    rw [h0] at this
    exact Option.some.inj this
  have o2 : Ok K ad F H (some s :: some t :: some o :: (E.set m none).set 0 none) (some vs0 :: some vt :: some v :: σ) g2 := by simpa using o2
  -- o to the front
  obtain ⟨g3, o3, m3⟩ := Ok.comm (E1 := [some s, some t]) (E2 := [some o]) (E := (E.set m none).set 0 none) (S1 := [some vs0, some vt]) (S2 := [some v]) (S := σ) rfl rfl o2
  obtain ⟨g4, o4, m4, _⟩ := Ok.front (E1 := [some o, some s, some t]) (S1 := [some v, some vs0, some vt]) (E := (E.set m none).set 0 none) (S := σ) rfl o3
  rw [e1', e2']
  exact ⟨g4, o4, fun x hx => (m1 x).mp ((m2 x).mp ((m3 x).mp (m4 x hx)))⟩
end
section
variable {P : Program} {w : World} {K : PySem.W.Frag} {mg : Str → Option Value} {base : Heap} {ad : Nat → Addr}
theorem fn_body2 {x qual : Str} {params : Arguments} {body : List Stmt} {scope : Scope} {kws : List (Str × V)} {f : Addr} {fd : FuncData} {N ps : List Str} {k : Nat} (F : FunD K x qual params body scope [] kws f fd) (S : FnScope N ps scope) (n m : Nat) (hn : N.length = ps.length + n) (b : Ms)
    (hm : ps.length = m + 1) (hm0 : m ≠ 0)
    (hb : ∀ (cdv : Value) (A : Around) (outer : List Env) (s : Shared) (H : Hp) (E : XK) (W : WX), Room k (A.deeper (envOfC qual scope s.heap.objs.size f cdv)) →
      PassesOwn (model P w) (cxOf (L2.CX P w) P w K mg base N qual scope f cdv A outer s H E).A (cxOf (L2.CX P w) P w K mg base N qual scope f cdv A outer s H E).env (cxOf (L2.CX P w) P w K mg base N qual scope f cdv A outer s H E).xe →
      Takes (cxOf (L2.CX P w) P w K mg base N qual scope f cdv A outer s H E) W → SSs (cxOf (L2.CX P w) P w K mg base N qual scope f cdv A outer s H E) ad W [0, m] body b) :
    FnOk P w K mg base (L2.CX P w) (k + 1) f fd ps (spOf2 K ad ps.length (fnOf2 n b)) := by
  refine F.ok S (fun vs H Q E h => ?_) (fun cdv A outer s H vs Q E hr h => ?_)
  · obtain ⟨F0, os, f0, h1, h2, _⟩ := h
    omega
  · obtain ⟨F0, os, f0, h1, h2, ok, q⟩ := h
    obtain ⟨ts, pts, qts⟩ := (hb cdv A outer s H E (fun cls d _ H' => E cls d H') hr (passes_of rfl) (takes_of rfl rfl rfl rfl)).ex
    refine ⟨ts, pts, ?_⟩
    have hvl : vs.length = m + 1 := by omega
    have ok2 : Ok K ad F0 H (os.map some ++ List.replicate n none) (start N vs) f0 := by
      rw [start_app]
      have e : N.length - vs.length = n := by omega
      rw [e]
      have r := RepE.append ok.rep (RepE.nones (K := K) (ad := ad) (F := F0) (H := H) n (List.replicate n none) (by simp))
      rw [List.append_nil] at r
      exact ⟨ok.sub, r, ok.nd, ok.nf⟩
    have st0 : (start N vs)[0]? = some vs.head? := by
      rw [start_app]
      cases vs with
      | nil => simp at hvl
      | cons v0 vs => rfl
    have st1 : (start N vs)[m]? = some vs.getLast? := by
      rw [start_app, List.getElem?_append_left (by simp; omega), List.getElem?_map, List.getLast?_eq_getElem?, show vs.length - 1 = m by omega, List.getElem?_eq_getElem (by omega)]
      rfl
    unfold fnOf2 at q
    refine qts F0 H _ _ f0 _ ok2 ?_
    cases hbb : b (os.map some ++ List.replicate n none) with
    | next E' => rw [hbb] at q; exact q.elim
    | ret o E' =>
      rw [hbb] at q
      intro F' H' σ' v f' st o' p
      have hom : os.length - 1 = m := by omega
      simp only [hom] at q
      cases ho : outs E' m with
      | none => rw [ho] at q; exact q.elim
      | some st' =>
        obtain ⟨s, t⟩ := st'
        rw [ho] at q
        obtain ⟨e0, e1⟩ := outs_eq ho
        obtain ⟨g, o2, m2⟩ := end_ok2 (vs := vs) o' hm0 e0 e1 (by rw [p 0 (by simp), st0]) (by rw [p m (by simp), st1])
        exact q F' H' v g (st.less m2) o2
    | brk E' => rw [hbb] at q; exact q.elim
    | cont E' => rw [hbb] at q; exact q.elim
    | exc c E' =>
      rw [hbb] at q
      intro F' H' σ' f' st o'
      exact q F' H' (st.less fun x hx => absurd hx (by simp)) o'.sub
    | bad => rw [hbb] at q; exact q.elim
end

def mCallS2 (φ : List O → Cr) (i j : Nat) (vals : M (List O)) : M O := fun E => match pairO E i j with
  | some _ => (vals E).bind fun os E1 => match pairO E1 i j with
    | some (s, t) => match φ (s :: (os ++ [t])) with
      | .ok o (some (.lst [s', t'])) => .ok o ((E1.set i (some s')).set j (some t'))
      | .exc c => .exc c ((E1.set i none).set j none)
      | _ => .bad
    | none => .bad
  | none => .bad
section
variable {X : Cx} {ad : Nat → Addr} {W : WX} {e : Expr} {es : List Expr} {m : M O} {ms : M (List O)} {φ : List O → Cr} {np : Nat} {x : Str} {p pos : Pos}
/-- arguments of which the last one is a name that is left as it is -/
structure SL (X : Cx) (ad : Nat → Addr) (W : WX) (es : List Expr) (ms : M (List O)) (j : Nat) : Prop where
  ex : ∃ ta, PA X es ta ∧ ∀ F H E σ f (Q : List V → Hp → Prop) vj, σ[j]? = some (some vj) → Ok X.K ad F H E σ f → AftL X.K ad W [] [] F H f σ (ms E) (fun vs H' => Q (vs ++ [vj]) H') → ta σ H Q
theorem SL.run {j : Nat} (h : SL X ad W es ms j) : ∃ ta, PA X es ta ∧ ∀ P PS F H E σ f (Q : List V → Hp → Prop) vj, P.length = PS.length → σ[j]? = some (some vj) → Ok X.K ad F H (P ++ E) (PS ++ σ) f → AftL X.K ad W P PS F H f σ (ms E) (fun vs H' => Q (vs ++ [vj]) H') → ta σ H Q := by
  obtain ⟨te, p, q⟩ := h.ex
  refine ⟨te, p, fun P PS F H E σ f Q vj hl hj ok a => ?_⟩
  obtain ⟨f2, o2, ms, k⟩ := ok.frame' hl
  exact q F H E σ f2 Q vj hj o2 (a.pre k ms)
theorem sl_last (j : Nat) (hN : X.N[j]? = some x := by rfl) (hv : Vis X.env.scope x := by first | exact Or.inl rfl | exact Or.inr (Or.inl rfl) | exact Or.inr (Or.inr rfl)) (hd : (x == ("__debug__" : Str)) = false := by decide)
    (hcd : (x == ("__classdict__" : Str)) = false := by decide) (hs : starEach [.Name x p] X.env = (false, eval (.Name x p) X.env) :: starEach [] X.env := by rfl) : SL X ad W [.Name x p] mNil j := by
  refine ⟨_, pa_cons (pe_var hN hv hd hcd) pa_nil hs, fun F H E σ f Q vj hj ok a => ⟨vj, hj, ?_⟩⟩
  exact a F H [] f (Step.refl _ _ _) rfl ok
theorem sl_cons {j : Nat} (ha : SE X ad W e m) (hr : SL X ad W es ms j) (hs : starEach (e :: es) X.env = (false, eval e X.env) :: starEach es X.env := by rfl) : SL X ad W (e :: es) (mCons m ms) j := by
  obtain ⟨te, pe, qe⟩ := ha.ex
  obtain ⟨ta, pa, qa⟩ := hr.run
  refine ⟨_, pa_cons pe pa hs, fun F H E σ f Q vj hj ok a => ?_⟩
  unfold mCons at a
  refine qe F H E σ f _ ok ?_
  cases hm : m E with
  | bad => rw [hm] at a; exact a
  | exc c E' => rw [hm] at a; exact fun F' H' f' s o => a F' H' f' s o
  | ok o E1 =>
    rw [hm, bind_ok] at a
    intro F1 H1 v f1 s1 o1
    refine qa [some o] [some v] F1 H1 E1 σ f1 _ vj rfl hj o1 ?_
    cases hm2 : ms E1 with
    | bad => rw [hm2] at a; exact a
    | exc c E' => rw [hm2] at a; exact fun F' H' f' s o => a F' H' f' (s1.trans s) o
    | ok os E2 =>
      rw [hm2, bind_ok] at a
      intro F2 H2 vs f2 s2 l2 o2
      exact a F2 H2 (v :: vs) f2 (s1.trans s2) (by simp [l2]) o2
theorem run_call2 {H : Hp} {F : Hp} {os : List O} {vs : List V} {E : En} {σ : L2.St} {f : List Addr} {Q : VK} (hx : os.length = np) (hl : vs.length = os.length) (ok : Ok X.K ad F H (os.map some ++ E) (vs.map some ++ σ) f)
    (q : match φ os with
      | .ok o (some (.lst [s, t])) => ∀ F' H' v f', Step F H f F' H' f' → Ok X.K ad F' H' (some o :: some s :: some t :: E) (some v :: vs.head? :: vs.getLast? :: σ) f' → Q v H'
      | .exc c => ∀ F' H' f', Step F H f F' H' f' → Ok X.K ad F' H' E σ f' → W (.ref (ad c)) none σ H'
      | _ => False) : spOf2 X.K ad np φ vs H Q (WE W σ) := by
  obtain ⟨f1, o1, ms1, k⟩ := ok.front (by simp [hl])
  refine ⟨F, os, f1, hl, hx, o1, ?_⟩
  split at q
  · intro F' H' v f' st o'
    obtain ⟨g, o2, s2⟩ := k st o'
    exact q F' H' v g s2 o2
  · intro F' H' st sub
    obtain ⟨g, o2, s2⟩ := k st (⟨sub, .nil, List.nodup_nil, fun a ha => absurd ha (by simp)⟩ : Ok X.K ad F' H' [] [] [])
    exact q F' H' g s2 o2
  · exact q.elim
theorem s_callS2 {x1 : Str} {p1 : Pos} {φ : List O → Cr} (i j : Nat) (hij : i ≠ j) (c : Cal2 X.prog X.w X.K X.mg X.base X.A ad x np φ) (tk : Takes X W) (hi : X.N[i]? = some x1) (hv : Vis X.env.scope x1) (hj : X.N[j]? = some x2) (ha : SL X ad W es ms j) (hn : es.length + 1 = np) (hlen : ∀ E os E', ms E = .ok os E' → os.length + 1 = es.length) (hg : Gl X x := by rfl)
    (hdb : (x == ("__debug__" : Str)) = false := by decide) (hd1 : (x1 == ("__debug__" : Str)) = false := by decide) (hcd : (x1 == ("__classdict__" : Str)) = false := by decide)
    (he : starEach (.Name x1 p1 :: es) X.env = (false, eval (.Name x1 p1) X.env) :: starEach es X.env := by rfl) (hpl : (backTo pos (starEach es X.env)).any (·.1) = false := by rfl) : SE X ad W (.Call (.Name x p) (.Name x1 p1 :: es) [] pos) (mCallS2 φ i j ms) := by
  obtain ⟨k, fa, fd, ps, F, hr, hm, hk, hb⟩ := c.ex
  obtain ⟨ta, pa, qa⟩ := ha.ex
  refine ⟨_, pe_callS F hr hg hm hk hb (fun σ => passAt tk σ) (pa_cons (pe_var hi hv hd1 hcd) pa he) hdb he hpl, fun F0 H E σ f Q ok q => ?_⟩
  show ∃ v, σ[i]? = some (some v) ∧ _
  unfold mCallS2 at q
  split at q
  case h_2 => exact q.elim
  next st0 h0 =>
  obtain ⟨s0, t0⟩ := st0
  obtain ⟨h0i, h0j⟩ := pairO_eq h0
  obtain ⟨v, _, _, hvv, _⟩ := ok.rep.at h0i
  obtain ⟨vj, _, _, hvj, _⟩ := ok.rep.at h0j
  refine ⟨v, hvv, ?_⟩
  show ta σ H fun xs H2 => spOf2 X.K ad np φ (v :: xs) H2 Q (WE W σ)
  refine qa F0 H E σ f _ vj hvj ok ?_
  cases hms : ms E with
  | bad => rw [hms] at q; exact q
  | exc c E' => rw [hms] at q; exact fun F' H' f' s o => q F' H' f' s o
  | ok os E1 =>
    rw [hms, bind_ok] at q
    intro F1 H1 vs f1 s1 l1 o1
    have o1 : Ok X.K ad F1 H1 (os.map some ++ E1) (vs.map some ++ σ) f1 := o1
    split at q
    case h_2 => exact q.elim
    next s t hst =>
    obtain ⟨hEi, hEj⟩ := pairO_eq hst
    -- the last one's object, behind the arguments
    have hE2 : (os.map some ++ E1)[os.length + j]? = some (some t) := by
      rw [List.getElem?_append_right (by simp)]
      simpa using hEj
    obtain ⟨vt, g1, hvt, o2, hm2⟩ := o1.take hE2
    have hv2 : (vs.map some ++ σ)[os.length + j]? = σ[j]? := by
      rw [List.getElem?_append_right (by simp [l1])]
      simp [l1]
    rw [hv2, hvj] at hvt
    have e : vj = vt := by simpa using hvt
    subst e
    have e2 : (os.map some ++ E1).set (os.length + j) none = os.map some ++ E1.set j none := by
      rw [List.set_append_right _ _ (by simp)]
      simp
    rw [e2] at o2
    obtain ⟨g2, o3, hm3⟩ := Ok.comm (E1 := [some t]) (E2 := os.map some) (E := E1.set j none) (S1 := [some vj]) (S2 := vs.map some) (S := σ) rfl (by simp [l1]) o2
    -- the first one's, ahead of them
    have hE3 : (os.map some ++ ([some t] ++ E1.set j none))[os.length + 1 + i]? = some (some s) := by
      rw [List.getElem?_append_right (by simp; omega)]
      rw [show os.length + 1 + i - (os.map some).length = i + 1 by simp; omega]
      show (some t :: E1.set j none)[i + 1]? = _
      rw [List.getElem?_cons_succ, List.getElem?_set_ne (Ne.symm hij)]
      exact hEi
    obtain ⟨v', g3, hv', o4, hm4⟩ := o3.take hE3
    have hv3 : (vs.map some ++ ([some vj] ++ σ))[os.length + 1 + i]? = σ[i]? := by
      rw [List.getElem?_append_right (by simp [l1]; omega)]
      rw [show os.length + 1 + i - (vs.map some).length = i + 1 by simp [l1]; omega]
      rfl
    rw [hv3, hvv] at hv'
    have e3 : v = v' := by simpa using hv'
    subst e3
    have e4 : (os.map some ++ ([some t] ++ E1.set j none)).set (os.length + 1 + i) none = os.map some ++ ([some t] ++ (E1.set j none).set i none) := by
      rw [List.set_append_right _ _ (by simp; omega)]
      rw [show os.length + 1 + i - (os.map some).length = i + 1 by simp; omega]
      rfl
    rw [e4] at o4
    have sg : Step F1 H1 f1 F1 H1 g3 := Step.perm fun x hx => (hm2 x).mp ((hm3 x).mp ((hm4 x).mp hx))
    have o5 : Ok X.K ad F1 H1 ((s :: (os ++ [t])).map some ++ (E1.set j none).set i none) ((v :: (vs ++ [vj])).map some ++ σ) g3 := by
      simpa using o4
    have hil : i < E1.length := (List.getElem?_eq_some_iff.mp hEi).1
    have hjl : j < E1.length := (List.getElem?_eq_some_iff.mp hEj).1
    refine run_call2 (os := s :: (os ++ [t])) (vs := v :: (vs ++ [vj])) (E := (E1.set j none).set i none) (by have := hlen _ _ _ hms; simp; omega) (by simp [l1]) o5 ?_
    replace q : Aft X.K ad W [] [] F0 H f σ (match φ (s :: (os ++ [t])) with
      | .ok o (some (.lst [s', t'])) => .ok o ((E1.set i (some s')).set j (some t'))
      | .exc c => .exc c ((E1.set i none).set j none)
      | _ => .bad) Q := q
    split at q
    · next o s' t' hφ =>
      intro F' H' u f' st o'
      have hh : (v :: (vs ++ [vj])).head? = some v := rfl
      have hg : (v :: (vs ++ [vj])).getLast? = some vj := by simp [List.getLast?_cons]
      rw [hh, hg] at o'
      -- back into their slots
      obtain ⟨f3, o6, ms3, k3⟩ := Ok.frame' (P := [some o]) (PS := [some u]) (E := some s' :: some t' :: (E1.set j none).set i none) (S := some v :: some vj :: σ) rfl o'
      obtain ⟨g5, o7, m7⟩ := Ok.comm (E1 := [some s']) (E2 := [some t']) (E := (E1.set j none).set i none) (S1 := [some v]) (S2 := [some vj]) (S := σ) rfl rfl o6
      obtain ⟨f4, o8, ms4, k4⟩ := Ok.frame' (P := [some t']) (PS := [some vj]) (E := some s' :: (E1.set j none).set i none) (S := some v :: σ) rfl o7
      obtain ⟨g6, o9, m9⟩ := o8.putAt (i := i) (by simp [hil]) hvv
      have e9 : ((E1.set j none).set i none).set i (some s') = (E1.set i (some s')).set j none := by
        rw [List.set_set, List.set_comm _ _ (Ne.symm hij)]
      rw [e9] at o9
      obtain ⟨g7, o10, s10⟩ := k4 (Step.perm fun x hx => (m9 x).mp hx) o9
      obtain ⟨g8, o11, m11⟩ := Ok.putAt (E := (E1.set i (some s')).set j none) (i := j) o10 (by simp [hjl]) hvj
      have e11 : ((E1.set i (some s')).set j none).set j (some t') = (E1.set i (some s')).set j (some t') := by rw [List.set_set]
      rw [e11] at o11
      obtain ⟨g9, o12, s12⟩ := k3 ((Step.perm fun x hx => (m7 x).mp hx).trans (s10.trans (Step.perm fun x hx => (m11 x).mp hx))) o11
      exact q F' H' u g9 (s1.trans (sg.trans (st.trans s12))) o12
    · next c hφ =>
      intro F' H' f' st o'
      rw [List.set_comm _ _ hij] at q
      exact q F' H' f' (s1.trans (sg.trans st)) o'
    · exact q.elim
end
end Mn

set_option Elab.async false
set_option linter.all false
set_option maxRecDepth 100000
set_option maxHeartbeats 4000000
/-! a dict of the module with texts as keys and numbers as values -/
namespace Mn
open PySem PySem.Spec PyProof.Rows L2
abbrev KvT := List (List Nat × Int)
def mkS (s : List Nat) : Str := ⟨s.toArray⟩
theorem mkS_inj {a b : List Nat} (h : mkS a = mkS b) : a = b := by
  have := congrArg (fun s : Str => s.cps.toList) h
  simpa [mkS] using this
def dvs (kvs : KvT) : List (Str × He.Dv) := kvs.map fun p => (mkS p.1, .int p.2)
/-- what is known of such a dict -/
structure TabOk (K : PySem.W.Frag) (w : World) (mg : Str → Option Value) (x : Str) (kvs : KvT) : Prop where
  ex : ∃ a es n, mg x = some (.ref a) ∧ KDict K w a es n ∧ (∀ s, s ∉ kvs.map (·.1) → PySem.W.nsIn K a (mkS s) = some none) ∧ ∀ p ∈ kvs, ∃ u, PySem.W.nsIn K a (mkS p.1) = some (some u) ∧ RelV (.int p.2) u
theorem keys_no {P : Params} {s : Str} : ∀ {l : List DictEntry} {ks : List Str}, l.map He.keyOf = He.keysIn P ks → s ∉ ks → l.find? (·.key.isStr s) = none ∧ l.any (·.refKey) = false
  | [], ks, _, _ => ⟨rfl, rfl⟩
  | e :: r, [], h, _ => by cases h
  | e :: r, k :: ks, h, hs => by
    have h1 : He.keyOf e :: r.map He.keyOf = some (k, PyData.keyHash P k) :: He.keysIn P ks := h
    injection h1 with h2 h3
    obtain ⟨i1, i2⟩ := keys_no (s := s) h3 fun hh => hs (List.mem_cons.mpr (.inr hh))
    have hk : s ≠ k := fun e => hs (List.mem_cons.mpr (.inl e))
    unfold He.keyOf at h2
    split at h2
    · next x t q =>
      have h4 := Option.some.inj h2
      obtain ⟨h5, h6⟩ := Prod.mk.inj h4
      subst h5
      have hf : e.key.isStr s = false := by
        rw [q]
        simp [Value.isStr, Ne.symm hk]
      have hr : e.refKey = false := by
        unfold DictEntry.refKey
        rw [q]
      exact ⟨by rw [List.find?_cons_of_neg (by simp [hf]), i1], by rw [List.any_cons, hr, i2]; rfl⟩
    · cases h2
theorem tab_ok {K : PySem.W.Frag} {w : World} {mg : Str → Option Value} {x : Str} {kvs : KvT} (hm : mg x = some (.ref (He.ga K x))) (hd : He.dicW K (He.ga K x) = some (He.keysIn w.params (kvs.map fun p => mkS p.1))) (hv : He.valsB K (He.ga K x) (dvs kvs) = true) : TabOk K w mg x kvs := by
  obtain ⟨es, n, D⟩ := He.dicW_ok hd
  refine ⟨_, es, n, hm, D, fun s hs => ?_, fun p hp => ?_⟩
  · have hl := D.at_
    have hk : es.toList.map He.keyOf = He.keysIn w.params (kvs.map fun p => mkS p.1) := by
      unfold He.dicW at hd
      rw [hl] at hd
      simp only at hd
      split at hd
      · exact Option.some.inj hd
      · cases hd
    obtain ⟨h1, h2⟩ := keys_no (s := mkS s) hk fun hh => by
      obtain ⟨p, hp, e⟩ := List.mem_map.mp hh
      exact hs (List.mem_map.mpr ⟨p, hp, mkS_inj e⟩)
    unfold PySem.W.nsIn
    rw [hl]
    simp only [h1, h2]
    rfl
  · obtain ⟨u, h1, h2⟩ := He.valsB_ok hv (q := (mkS p.1, .int p.2)) (List.mem_map.mpr ⟨p, hp, rfl⟩)
    exact ⟨u, h1, h2⟩
def mInK (ks : List (List Nat)) (ma : M O) : M O := fun E => (ma E).bind fun a E1 => match a with
  | .fz (.str s) => .ok (.fz (.bl (decide (s ∈ ks)))) E1
  | _ => .bad
def lookT : KvT → List Nat → Option Int
  | [], _ => none
  | (k, v) :: r, s => if k = s then some v else lookT r s
theorem lookT_mem {kvs : KvT} {s : List Nat} {v : Int} (h : lookT kvs s = some v) : (s, v) ∈ kvs := by
  induction kvs with
  | nil => cases h
  | cons p r ih =>
    obtain ⟨k, u⟩ := p
    unfold lookT at h
    split at h
    · next e => cases h; subst e; exact List.mem_cons_self
    · exact List.mem_cons_of_mem _ (ih h)
def mItK (kvs : KvT) (mk : M O) : M O := fun E => (mk E).bind fun k E1 => match k with
  | .fz (.str s) => match lookT kvs s with
    | some v => .ok (.fz (.int v)) E1
    | none => .bad
  | _ => .bad
section
variable {X : Cx} {ad : Nat → Addr} {W : WX} {a b : Expr} {ma mk : M O} {x : Str} {px pos : Pos} {kvs : KvT}
theorem inK_core {ta : TE} {d : Addr} (qa : ∀ F H E σ f Q, Ok X.K ad F H E σ f → Aft X.K ad W [] [] F H f σ (ma E) Q → ta σ H Q)
    (hno : ∀ s, s ∉ kvs.map (·.1) → PySem.W.nsIn X.K d (mkS s) = some none) (hyes : ∀ p ∈ kvs, ∃ u, PySem.W.nsIn X.K d (mkS p.1) = some (some u) ∧ RelV (.int p.2) u) :
    ∀ F H E σ f Q, Ok X.K ad F H E σ f → Aft X.K ad W [] [] F H f σ (mInK (kvs.map (·.1)) ma E) Q → tOp (fun x y H Q => ∃ (z : Str) (r : Option Value), x = .str z ∧ y = .ref d ∧ PySem.W.nsIn X.K d z = some r ∧ Q (.bl r.isSome) H) ta (tC (.ref d)) σ H Q := by
  intro F H E σ f Q ok q
  refine qa F H E σ f _ ok ?_
  unfold mInK at q
  cases hm : ma E with
  | exc c E1 => rw [hm] at q; exact fun F' H' f' s o => q F' H' f' s o
  | bad => rw [hm] at q; exact q
  | ok o E1 =>
    rw [hm, bind_ok] at q
    intro F1 H1 v f1 s1 o1
    split at q
    · next s =>
      have hI := o1.head
      cases hI
      obtain ⟨f2, o2, s2⟩ := o1.tl'
      by_cases hs : s ∈ kvs.map (·.1)
      · obtain ⟨p, hp, rfl⟩ := List.mem_map.mp hs
        obtain ⟨u, h1, _⟩ := hyes p hp
        refine ⟨mkS p.1, some u, rfl, rfl, h1, ?_⟩
        rw [decide_eq_true hs] at q
        exact q F1 H1 _ f2 (s1.trans s2) (o2.bl true)
      · refine ⟨mkS s, none, rfl, rfl, hno s hs, ?_⟩
        rw [decide_eq_false hs] at q
        exact q F1 H1 _ f2 (s1.trans s2) (o2.bl false)
    · exact q.elim
theorem s_inK (T : TabOk X.K X.w X.mg x kvs) (ha : SE X ad W a ma) (hg : Gl X x := by rfl) (hdb : (x == ("__debug__" : Str)) = false := by decide) (hm : behindInMarks .In (.Name x px) = false := by rfl) :
    SE X ad W (.Compare a [.In] [.Name x px] pos) (mInK (kvs.map (·.1)) ma) := by
  obtain ⟨ta, pa, qa⟩ := ha.ex
  obtain ⟨d, es, n, h1, D, h2, h3⟩ := T.ex
  exact ⟨_, pe_cmpR (op_in_kd D) pa (pe_glob hg h1 (v := .ref d) rfl hdb) hm, inK_core qa h2 h3⟩
theorem t_inK (T : TabOk X.K X.w X.mg x kvs) (ha : SE X ad W a ma) (hg : Gl X x := by rfl) (hdb : (x == ("__debug__" : Str)) = false := by decide) (hm : behindInMarks .In (.Name x px) = false := by rfl) :
    ST X ad W (.Compare a [.In] [.Name x px] pos) (mAsB (mInK (kvs.map (·.1)) ma)) := by
  obtain ⟨ta, pa, qa⟩ := ha.ex
  obtain ⟨d, es, n, h1, D, h2, h3⟩ := T.ex
  exact ⟨_, pt_cmpR (op_in_kd D) pa (pe_glob hg h1 (v := .ref d) rfl hdb) hm, asB_core (inK_core qa h2 h3)⟩
theorem s_itK (T : TabOk X.K X.w X.mg x kvs) (hb : SE X ad W b mk) (hg : Gl X x := by rfl) (hdb : (x == ("__debug__" : Str)) = false := by decide) (hs : PlainIx b := by exact fun _ _ => rfl) :
    SE X ad W (.Subscript (.Name x px) b pos) (mItK kvs mk) := by
  obtain ⟨tb, pb, qb⟩ := hb.ex
  obtain ⟨d, es, n, h1, D, h2, h3⟩ := T.ex
  refine ⟨_, pe_ix ix_kdict (pe_glob hg h1 (v := .ref d) rfl hdb) pb hs, fun F H E σ f Q ok q => ?_⟩
  refine qb F H E σ f _ ok ?_
  unfold mItK at q
  cases hm : mk E with
  | exc c E1 => rw [hm] at q; exact fun F' H' f' s o => q F' H' f' s o
  | bad => rw [hm] at q; exact q
  | ok o E1 =>
    rw [hm, bind_ok] at q
    intro F1 H1 v f1 s1 o1
    split at q
    · next s =>
      have hI := o1.head
      cases hI
      obtain ⟨f2, o2, s2⟩ := o1.tl'
      split at q
      · next i hl =>
        obtain ⟨u, e1, e2⟩ := h3 _ (lookT_mem hl)
        exact ⟨d, mkS s, .int i, rfl, rfl, ⟨es, n, u, D.at_, D.lit, e1, e2⟩, q F1 H1 _ f2 (s1.trans s2) (o2.dat (.int i))⟩
      · exact q.elim
    · exact q.elim
end
/-! the Hook: defs, facts, dicts of the module, one Bool more -/
abbrev AlN : Type := He.AlT × Bool
def obsN (fa : List He.Fa) (fn : List He.DefD) (ts : List He.Tab) (ex : PySem.W.Frag → Bool) (K : PySem.W.Frag) : AlN := (He.obsT fa fn ts K, ex K)
structure SaysN (fa : List He.Fa) (fn : List He.DefD) (ts : List He.Tab) (ex : PySem.W.Frag → Bool) (w : World) (K : PySem.W.Frag) : Prop where
  t : He.SaysT fa fn ts w K
  x : ex K = true
def obsNG (n : Nat) (fa : List He.Fa) (fn : List He.DefD) (ts : List He.Tab) (ex : PySem.W.Frag → Bool) (g : Addr → Option Obj) : AlN := obsN fa fn ts ex (He.frG g (He.asD g n))
def hookN (n : Nat) (fa : List He.Fa) (fn : List He.DefD) (ts : List He.Tab) (ex : PySem.W.Frag → Bool) : PySem.W.Hook where
  α := AlN
  obs := fun s => obsNG n fa fn ts ex s.heap.get?
  val := fun w => (He.valT fn ts w, true)
  says := fun w h => ∃ K : PySem.W.Frag, K.In h ∧ SaysN fa fn ts ex w K
  of := fun _ _ e => ⟨_, He.frG_in, congrArg (fun z : AlN => z.1) e, congrArg (fun z : AlN => z.2) e⟩
  keeps := fun _ _ _ ⟨K, hK, c⟩ k => ⟨K, PySem.W.Frag.In.keeps hK k, c⟩
theorem obsNG_eq {n : Nat} {fa : List He.Fa} {fn : List He.DefD} {ts : List He.Tab} {ex : PySem.W.Frag → Bool} {g : Addr → Option Obj} {s : Shared} (h : ∀ a, g a = s.heap.get? a) : obsNG n fa fn ts ex g = (hookN n fa fn ts ex).obs s := by
  have e : g = s.heap.get? := funext h
  rw [e] <;> rfl
/-- a dict of the module, by the Hook -/
theorem SaysN.tab {fa : List He.Fa} {fn : List He.DefD} {ts : List He.Tab} {w : World} {K : PySem.W.Frag} {mg : Str → Option Value} (c : He.SaysT fa fn ts w K) (i : Nat) {x : Str} {kvs : KvT} (h : ts[i]? = some (fun K => He.ga K x, kvs.map fun p => mkS p.1)) (hm : mg x = some (.ref (He.ga K x))) (hv : He.valsB K (He.ga K x) (dvs kvs) = true) : TabOk K w mg x kvs := by
  have e : ts.map (fun t => He.dicW K (t.1 K)) = ts.map fun t => some (He.keysIn w.params t.2) := congrArg (fun z : He.AlT => z.2) c
  have e2 : (ts.map fun t => He.dicW K (t.1 K))[i]? = (ts.map fun t => some (He.keysIn w.params t.2))[i]? := by rw [e]
  rw [List.getElem?_map, List.getElem?_map, h] at e2
  exact tab_ok hm (Option.some.inj e2) hv
end Mn

set_option Elab.async false
set_option linter.all false
set_option maxRecDepth 100000
set_option maxHeartbeats 4000000
/-! a text or a list, some times -/
namespace Mn
open PySem PySem.Spec PyProof.Rows L2
def mulS : List O → Option O
  | [.fz (.str s), .fz (.int n)] => if n = 0 then some (.fz (.str [])) else if n = 1 then some (.fz (.str s)) else none
  | _ => none
def mulL : List O → Option O
  | [a, .fz (.int n)] => match a.toD with
    | .lst s => if 0 ≤ n ∧ n ≤ 1000 ∧ s.length ≤ 1000 then some (.lst ((List.replicate n.toNat s).flatten.map O.fz)) else none
    | _ => none
  | _ => none
def pMul : List O → Option O := orO pMulI (orO mulS mulL)
section
variable {X : Cx} {ad : Nat → Addr}
def rMulS : R2 := fun x y H Q => ∃ s n, x = .str s ∧ y = .int n ∧ (n = 0 ∨ n = 1) ∧ Q (.str (if n = 1 then s else ⟨#[]⟩)) H
theorem op_mulS : OpR X (binaryOp .Mult) rMulS := by
  intro pins s σ H x y v u Q I rx ry h
  obtain ⟨a, n, rfl, rfl, hn, q⟩ := h
  obtain ⟨t, rfl⟩ := rx
  obtain ⟨t', rfl⟩ := ry
  have hm : Txt.mul a n = if n = 1 then a else ⟨#[]⟩ := by
    rcases hn with rfl | rfl
    · rfl
    · rfl
  refine SB.mul (x := a) (n := n) ⟨?_, ?_, ?_⟩ fun t' k => ?_
  · rcases hn with rfl | rfl <;> decide
  · intro h1 h2
    rcases hn with rfl | rfl
    · exact absurd (by decide) h1
    · simp at h2
  · intro h1 h2
    rcases hn with rfl | rfl
    · exact absurd (by decide) h1
    · simp at h2
  · rw [hm]
    exact ⟨.str (if n = 1 then a else ⟨#[]⟩), H, I.tok _, ⟨_, rfl⟩, q⟩
theorem k_mulS : Prm X ad (r2 rMulS) mulS := by
  refine ⟨fun F H os vs E σ f Q ok hl q => ?_⟩
  rcases hg : mulS os with _ | o
  · rw [hg] at q; exact q.elim
  rw [hg] at q
  unfold mulS at hg
  split at hg
  · next s n =>
    match vs, hl, ok with
    | [v, u], _, ok =>
      have r := ok.isL (os := [.fz (.str s), .fz (.int n)]) (vs := [v, u]) rfl
      obtain ⟨f2, o2, s2⟩ := ok.rest (os := [.fz (.str s), .fz (.int n)]) (vs := [v, u]) rfl
      simp only [O.toDs, O.toD] at r
      cases r with
      | cons r1 r => cases r with
        | cons r2 r =>
          cases r; cases r1; cases r2
          split at hg
          · next h0 =>
            subst h0
            cases hg
            refine ⟨_, _, rfl, _, _, rfl, rfl, .inl rfl, ?_⟩
            exact q F H _ f2 s2 (o2.dat (.str _))
          · split at hg
            · next h1 =>
              subst h1
              cases hg
              refine ⟨_, _, rfl, _, _, rfl, rfl, .inr rfl, ?_⟩
              exact q F H _ f2 s2 (o2.dat (.str _))
            · cases hg
  · cases hg
theorem isL_rep {K : PySem.W.Frag} {F : Hp} {ds : List D} {vs : List V} (h : IsL K ad F ds vs) : ∀ n : Nat, IsL K ad F (List.replicate n ds).flatten (List.replicate n vs).flatten
  | 0 => .nil
  | n + 1 => by
    rw [List.replicate_succ, List.replicate_succ, List.flatten_cons, List.flatten_cons]
    exact h.append (isL_rep h n)
theorem rep_len {α : Type} (xs : List α) : ∀ n : Nat, (List.replicate n xs).flatten.length = xs.length * n
  | 0 => rfl
  | n + 1 => by
    rw [List.replicate_succ, List.flatten_cons, List.length_append, rep_len xs n, Nat.mul_succ]
    omega
theorem k_mulL : Prm X ad (r2 rRep) mulL := by
  refine ⟨fun F H os vs E σ f Q ok hl q => ?_⟩
  rcases hg : mulL os with _ | o
  · rw [hg] at q; exact q.elim
  rw [hg] at q
  unfold mulL at hg
  split at hg
  · next a n =>
    match vs, hl, ok with
    | [v, u], hl, ok =>
      obtain ⟨F1, f1, s1, o1, r1⟩ := Ok.freezeL (os := [a, .fz (.int n)]) (vs := [v, u]) rfl ok
      simp only [O.toDs, O.toD] at r1
      split at hg
      · next s h1 =>
        rw [h1] at r1
        split at hg
        · next hh =>
          cases hg
          cases r1 with
          | cons i1 r => cases r with
            | cons i2 r =>
              cases i2
              cases i1 with
              | @lst _ _ xs h1 l1 =>
                have e1 := l1.length
                have hz : xs.length * n.toNat ≤ 1000 * 1000 := Nat.mul_le_mul (by omega) (by omega)
                have hsz : xs.length * n.toNat ≤ sizeLine := Nat.le_trans hz (by decide)
                refine ⟨_, _, rfl, _, _, xs, rfl, rfl, o1.sub _ _ h1, by omega, by omega, hsz, fun p hp => ?_⟩
                have hlen : (List.replicate n.toNat s).flatten.length = (List.replicate n.toNat xs).flatten.length := by rw [rep_len, rep_len, e1]
                have o2 : Ok X.K ad F1 H (((List.replicate n.toNat s).flatten.map O.fz).map some ++ E) (((List.replicate n.toNat xs).flatten).map some ++ σ) ([] ++ f1) :=
                  ⟨o1.sub, RepE.append (RepE.ofL (RepL.ofIs (isL_rep l1 _))) o1.rep, by simpa using o1.nd, fun x hx => o1.nf x (by simpa using hx)⟩
                obtain ⟨s3, o3⟩ := o2.newLst (P := []) (PS := []) (by simp only [List.length_map]; exact hlen) hp
                exact q _ _ _ _ (s1.trans s3) o3
        · cases hg
      · cases hg
  · cases hg
def rMulA : R2 := fun x y H Q => rI CMulW (fun i j => V.int (i * j)) x y H Q ∨ (rMulS x y H Q ∨ rRep x y H Q)
theorem o_mulA : OpR X (binaryOp .Mult) rMulA := op_mulW.or (op_mulS.or op_rep)
theorem k_mulA : Prm X ad (r2 rMulA) pMul := k_mulI.or (k_mulS.or k_mulL)
end
end Mn

set_option Elab.async false
set_option linter.all false
set_option maxRecDepth 100000
set_option maxHeartbeats 4000000
/-! raise of an own class; try .. except X as e: return isinstance(e, Y); a text some times -/
namespace Mn
open PySem PySem.Spec PyProof.Rows L2
/-- what is asked of the class C, raised, caught by itself and held against B -/
structure ClsOk (K : PySem.W.Frag) (mg : Str → Option Value) (x y : Str) (C B : Addr) : Prop where
  gC : mg x = some (.ref C)
  gB : mg y = some (.ref B)
  xC : PySem.W.excIn K C He.veBase "ValueError.__new__" = true
  kC : PySem.W.keepIn K (.ref C) = true
  bC : PySem.W.subIn K (.ref C) (.type "BaseException") = some true
  tC : PySem.W.typeIn K (.ref C) = some (.type "type")
  mC : PySem.W.exmOne K (.ref C) (.ref C) = some true
  eC : ExcC K C
  kB : PySem.W.kitOne K (.ref C) (.ref B) = some true
def excCB (K : PySem.W.Frag) (C B : Addr) : Bool :=
  decide (PySem.W.findIn K (.ref C) "__getattribute__" = some (some (.builtin "BaseException.__getattribute__"))) && (decide (PySem.W.findIn K (.ref C) "__getattr__" = some none) && (PySem.W.hasDictIn K C &&
  (decide (PySem.W.findIn K (.ref C) "__class__" = some (some (.builtin "object.__class__"))) && (decide (PySem.W.specialIn K (.builtin "object.__class__") "__get__" = some (some (.builtin "getset_descriptor.__get__"))) && (decide (PySem.W.takesIn K (.builtin "object.__class__") = some true) &&
  (decide (PySem.W.mroIn K C (.type "object") = some true) && decide (PySem.W.kitOne K (.ref C) (.ref B) = some true)))))))
theorem clsOk_of {K : PySem.W.Frag} {mg : Str → Option Value} {x y : Str} {C B : Addr} (gC : mg x = some (.ref C)) (gB : mg y = some (.ref B)) (h : PySem.W.excIn K C He.veBase "ValueError.__new__" = true ∧ PySem.W.keepIn K (.ref C) = true ∧ PySem.W.subIn K (.ref C) (.type "BaseException") = some true ∧ PySem.W.typeIn K (.ref C) = some (.type "type"))
    (hm : PySem.W.exmOne K (.ref C) (.ref C) = some true) (hx : excCB K C B = true) : ClsOk K mg x y C B := by
  obtain ⟨h1, h2, h3, h4⟩ := h
  unfold excCB at hx
  obtain ⟨a1, hx⟩ := He.ba hx
  obtain ⟨a2, hx⟩ := He.ba hx
  obtain ⟨a3, hx⟩ := He.ba hx
  obtain ⟨a4, hx⟩ := He.ba hx
  obtain ⟨a5, hx⟩ := He.ba hx
  obtain ⟨a6, hx⟩ := He.ba hx
  obtain ⟨a7, a8⟩ := He.ba hx
  exact ⟨gC, gB, h1, h2, h3, h4, hm, ⟨of_decide_eq_true a1, of_decide_eq_true a2, h3, a3, of_decide_eq_true a4, of_decide_eq_true a5, of_decide_eq_true a6, of_decide_eq_true a7⟩, of_decide_eq_true a8⟩
section
variable {X : Cx} {ad : Nat → Addr} {W : WX} {io : List Nat} {x y : Str} {C B : Addr}
theorem z_raiseC {m : Str} {j : Nat} {p p2 pos pos2 : Pos} (c : Nat) (hC : ad c = C) (cl : ClsOk X.K X.mg x y C B) (tk : Takes X W) (hc : X.calm = true := by rfl) (hg : Gl X x := by rfl) (hdb : (x == ("__debug__" : Str)) = false := by decide) :
    SS X ad W io (.Raise (some (.Call (.Name x p) [.Constant (.str m) j p2] [] pos)) none pos2) (mRaise c) :=
  z_raise c hC hc tk (pmk_own PySem.F.excBase_ValueError cl.xC cl.gC cl.kC (raises_own cl.bC cl.tC) hg hdb)
end
def mTryIs (c i : Nat) (b : Ms) : Ms := fun E => match b E with
  | .exc c' E' => if c' = c ∧ i < E'.length then .ret (.fz (.bl true)) (E'.set i none) else .bad
  | r => r
theorem RepE.setN {K : PySem.W.Frag} {ad : Nat → Addr} {F H : Hp} : ∀ {E : En} {S : L2.St} {f : List Addr} {i : Nat} {v : Option V}, RepE K ad F H E S f → (E[i]? = some none ∨ E[i]? = none) → RepE K ad F H E (S.set i v) f
  | _, _, _, i, _, .nil, _ => by simpa using .nil
  | _, _, _, 0, v, .skip r, _ => by simpa using .skip r
  | _, _, _, i + 1, v, .skip r, e => by
    rw [List.set_cons_succ]
    exact .skip (RepE.setN (i := i) r (by simpa using e))
  | _, _, _, 0, v, .put h r, e => by simp at e
  | _, _, _, i + 1, v, .put h r, e => by
    rw [List.set_cons_succ]
    exact .put h (RepE.setN (i := i) r (by simpa using e))
section
variable {X : Cx} {ad : Nat → Addr} {W : WX} {x y n : Str} {C B : Addr} {body : List Stmt} {mb : Ms} {np p1 p2 p3 p4 p5 pos pos' : Pos}
def tBd (X : Cx) (body : List Stmt) (W : WX) : TS := fun D σ H => ∀ (pn : List (Addr × Obj)) (xe : Value → Shared → Prop), Takes (X.tr pn xe) W → ∃ ts, PSs (X.tr pn xe) body ts ∧ ts D σ H
theorem z_tryIs (c i : Nat) (hC : ad c = C) (cl : ClsOk X.K X.mg x y C B) (hm : X.mg "isinstance" = none) (hs : X.stack = X.env :: X.outer) (hf : X.env.frame = some X.env.locals) (hN : X.N.Nodup) (hi : X.N[i]? = some n) (hln : X.env.kindOf n = some .local) (tk : Takes X W)
    (hb : ∀ (W : WX) (pn : List (Addr × Obj)) (xe : Value → Shared → Prop), Takes (X.tr pn xe) W → SSs (X.tr pn xe) ad W [] body mb) (hv : Vis X.env.scope n) (hdn : (n == ("__debug__" : Str)) = false := by decide) (hcn : (n == ("__classdict__" : Str)) = false := by decide)
    (hgx : Gl X x := by rfl) (hgy : Gl X y := by rfl) (hg : Gl X "isinstance" := by rfl) (hdx : (x == ("__debug__" : Str)) = false := by decide) (hdy : (y == ("__debug__" : Str)) = false := by decide)
    (hs1 : starEach [.Name n p2, .Name y p3] X.env = (false, eval (.Name n p2) X.env) :: starEach [.Name y p3] X.env := by rfl) (hs2 : starEach [.Name y p3] X.env = (false, eval (.Name y p3) X.env) :: starEach [] X.env := by rfl) (hpl : (backTo p4 (starEach [.Name y p3] X.env)).any (·.1) = false := by rfl) :
    SS X ad W [] (.Try body [.ExceptHandler (some (.Name x np)) (some n) [.Return (some (.Call (.Name "isinstance" p1) [.Name n p2, .Name y p3] [] p4)) p5] pos'] [] [] pos) (mTryIs c i mb) := by
  subst hC
  refine ⟨_, ps_try_as (tb := tBd X body) (ts := fun a cls d D σ H => cls = .ref (ad c) ∧ d = none ∧ tRet (tCB (rIsE X.K (ad c) a) (tCons (tVar i) (tCons (tC (.ref B)) tNil))) D σ H) (i := i) (Wout := W) hs hf hN hi hln ⟨hgx, hdx, .inl cl.gC⟩ tk
    (fun W' pn xe tk' _ => ⟨fun pins s σ H D I h => ?_⟩) (fun a oe cls d pn hz hfl => ⟨fun pins s σ H D I h => ?_⟩), fun F H E σ f D ok q => ?_⟩
  · obtain ⟨ts, p, q⟩ := h pn xe tk'
    exact p.run pins s σ H D I q
  · obtain ⟨rfl, rfl, q⟩ := h
    have pA : PA (X.suite a ((a, oe) :: pn)) [.Name n p2, .Name y p3] (tCons (tVar i) (tCons (tC (.ref B)) tNil)) :=
      pa_cons (pv (X := X.suite a ((a, oe) :: pn)) i hi hv hdn hcn) (pa_cons (pe_glob (X := X.suite a ((a, oe) :: pn)) hgy cl.gB (v := .ref B) rfl hdy) pa_nil hs2) hs1
    have pC : PE (X.suite a ((a, oe) :: pn)) (.Call (.Name "isinstance" p1) [.Name n p2, .Name y p3] [] p4) (tCB (rIsE X.K (ad c) a) (tCons (tVar i) (tCons (tC (.ref B)) tNil))) :=
      pe_callB (X := X.suite a ((a, oe) :: pn)) (call_isE cl.eC hz hfl) hg hm (by decide +kernel) pA (by decide) (by decide) hs1 hpl
    exact (pss_one (ps_ret pC)).run pins s σ H D I q
  · intro pn xe tk'
    obtain ⟨ts, p, q'⟩ := (hb _ pn xe tk').ex
    refine ⟨ts, p, q' F H E σ f D ok ?_⟩
    unfold mTryIs at q
    cases hbb : mb E with
    | next E1 => rw [hbb] at q; exact q
    | ret o E1 => rw [hbb] at q; exact q
    | brk E1 => rw [hbb] at q; exact q
    | cont E1 => rw [hbb] at q; exact q
    | bad => rw [hbb] at q; exact q
    | exc c' E1 =>
      rw [hbb] at q
      by_cases hcc : c' = c ∧ i < E1.length
      · have q2 : AftS X.K ad W [] F H f σ (if c' = c ∧ i < E1.length then .ret (.fz (.bl true)) (E1.set i none) else .bad) D := q
        rw [if_pos hcc] at q2
        clear q
        obtain ⟨rfl, hlt⟩ := hcc
        intro F' H' σ' f' st o'
        refine ⟨true, cl.mC, fun _ a ha => ⟨rfl, rfl, ?_⟩, fun z => Bool.noConfusion z⟩
        obtain ⟨g, o2, m2⟩ := o'.forget i
        have hl : E1.length = σ'.length := o'.rep.length
        have o3 : Ok X.K ad F' H' (E1.set i none) (σ'.set i (some (.ref a))) g := ⟨o2.sub, o2.rep.setN (.inl (by simp [hlt])), o2.nd, o2.nf⟩
        have hr := q2 F' H' (σ'.set i (some (.ref a))) (.bl true) g (st.less m2) (o3.dat (.bl true)) (fun j hj => absurd hj (by simp))
        have hs : (σ'.set i (some (V.ref a)))[i]? = some (some (.ref a)) := by rw [List.getElem?_set_self (by omega)]
        exact ⟨.ref a, hs, .ref B, .ref B, true, rfl, fun u hu => hu, cl.kB, hr⟩
      · have q : AftS X.K ad W [] F H f σ (if c' = c ∧ i < E1.length then .ret (.fz (.bl true)) (E1.set i none) else .bad) D := q
        rw [if_neg hcc] at q
        exact q.elim
end
/-! a text some times -/
def mulS2 : List O → Option O
  | [.fz (.str s), .fz (.int n)] => if 0 ≤ n ∧ n ≤ 1000 ∧ s.length ≤ 1000 then some (.fz (.str (List.replicate n.toNat s).flatten)) else none
  | _ => none
def pMul2 : List O → Option O := orO pMulI (orO mulS2 mulL)
theorem foldl_app {α : Type} (s : List α) : ∀ (n : Nat) (a : Array α), (List.foldl (· ++ ·) a (List.replicate n s.toArray)).toList = a.toList ++ (List.replicate n s).flatten
  | 0, a => by simp
  | n + 1, a => by
    rw [List.replicate_succ, List.foldl_cons, foldl_app s n, List.replicate_succ, List.flatten_cons]
    simp
theorem txt_mul (s : List Nat) (n : Int) (h : 0 ≤ n) : Txt.mul ⟨s.toArray⟩ n = ⟨(List.replicate n.toNat s).flatten.toArray⟩ := by
  unfold Txt.mul
  split
  · next h1 =>
    have : n = 0 := by omega
    subst this
    rfl
  · next h1 =>
    split
    · next h2 =>
      rcases Bool.or_eq_true _ _ ▸ h2 with h3 | h3
      · have : n = 1 := by simpa using h3
        subst this
        simp
      · have : s = [] := by simpa [Str.length] using h3
        subst this
        simp
    · refine congrArg Str.mk ?_
      apply Array.toList_inj.mp
      rw [foldl_app]
      simp
section
variable {X : Cx} {ad : Nat → Addr}
def rMulS2 : R2 := fun x y H Q => ∃ (s : Str) (n : Int), x = .str s ∧ y = .int n ∧ 0 ≤ n ∧ n ≤ 1000 ∧ s.length ≤ 1000 ∧ Q (.str (Txt.mul s n)) H
theorem op_mulS2 : OpR X (binaryOp .Mult) rMulS2 := by
  intro pins s σ H x y v u Q I rx ry h
  obtain ⟨a, n, rfl, rfl, h0, h1, h2, q⟩ := h
  obtain ⟨t, rfl⟩ := rx
  obtain ⟨t', rfl⟩ := ry
  refine SB.mul (x := a) (n := n) (mulOk_of 1000 1000 h2 (by omega) (by omega) (by decide) (by decide)) fun t' k => ?_
  exact ⟨.str (Txt.mul a n), H, I.tok _, ⟨_, rfl⟩, q⟩
theorem k_mulS2 : Prm X ad (r2 rMulS2) mulS2 := by
  refine ⟨fun F H os vs E σ f Q ok hl q => ?_⟩
  rcases hg : mulS2 os with _ | o
  · rw [hg] at q; exact q.elim
  rw [hg] at q
  unfold mulS2 at hg
  split at hg
  · next s n =>
    match vs, hl, ok with
    | [v, u], _, ok =>
      have r := ok.isL (os := [.fz (.str s), .fz (.int n)]) (vs := [v, u]) rfl
      obtain ⟨f2, o2, s2⟩ := ok.rest (os := [.fz (.str s), .fz (.int n)]) (vs := [v, u]) rfl
      simp only [O.toDs, O.toD] at r
      cases r with
      | cons r1 r => cases r with
        | cons r2 r =>
          cases r; cases r1; cases r2
          split at hg
          · next h0 =>
            cases hg
            refine ⟨_, _, rfl, _, _, rfl, rfl, h0.1, h0.2.1, by simpa [Str.length] using h0.2.2, ?_⟩
            rw [txt_mul s n h0.1]
            exact q F H _ f2 s2 (o2.dat (.str _))
          · cases hg
  · cases hg
def rMulA2 : R2 := fun x y H Q => rI CMulW (fun i j => V.int (i * j)) x y H Q ∨ (rMulS2 x y H Q ∨ rRep x y H Q)
theorem o_mulA2 : OpR X (binaryOp .Mult) rMulA2 := op_mulW.or (op_mulS2.or op_rep)
theorem k_mulA2 : Prm X ad (r2 rMulA2) pMul2 := k_mulI.or (k_mulS2.or k_mulL)
end
end Mn

set_option Elab.async false
set_option linter.all false
set_option maxRecDepth 100000
set_option maxHeartbeats 4000000
/-! what the meanings do, rule by rule, for simp -/
namespace Mn
open PySem PySem.Spec PyProof.Rows L2

@[simp] theorem ev_seq (a b : Ms) (E : En) : mSeq a b E = (a E).seq b := rfl
@[simp] theorem ev_if (c : M Bool) (a b : Ms) (E : En) : mIf c a b E = (c E).fl fun k E1 => if k then a E1 else b E1 := rfl
@[simp] theorem ev_ret (m : M O) (E : En) : mRet m E = (m E).fl fun o E1 => .ret o E1 := rfl
@[simp] theorem ev_done (E : En) : mDone E = .next E := rfl
@[simp] theorem ev_drop (m : M O) (E : En) : mDrop m E = (m E).fl fun _ E1 => .next E1 := rfl
@[simp] theorem ev_asg (t : Mt) (m : M O) (E : En) : mAsg t m E = (m E).fl fun o E1 => (t o E1).fl fun _ E2 => .next E2 := rfl
@[simp] theorem ev_name (i : Nat) (o : O) (E : En) : tName i o E = .ok () (E.set i (some o)) := rfl
@[simp] theorem ev_var {i : Nat} {E : En} {d : D} (h : E[i]? = some (some (.fz d))) : mVar i E = .ok (.fz d) E := by unfold mVar; rw [h]
@[simp] theorem ev_varL {i : Nat} {E : En} {xs : List O} (h : E[i]? = some (some (.lst xs))) : mVar i E = .ok (.fz (.lst (O.toDs xs))) (E.set i (some (.fz (.lst (O.toDs xs))))) := by unfold mVar; simp only [h, O.toD]
@[simp] theorem ev_varK {i : Nat} {E : En} {xs : List (KK × O)} (h : E[i]? = some (some (.dct xs))) : mVar i E = .ok (.fz (.dct (O.toKs xs))) (E.set i (some (.fz (.dct (O.toKs xs))))) := by unfold mVar; simp only [h, O.toD]
@[simp] theorem ev_lit (d : D) (E : En) : mLit d E = .ok (.fz d) E := rfl
@[simp] theorem ev_nil (E : En) : mNil E = .ok [] E := rfl
@[simp] theorem ev_cons (a : M O) (r : M (List O)) (E : En) : mCons a r E = (a E).bind fun x E1 => (r E1).bind fun xs E2 => .ok (x :: xs) E2 := rfl
@[simp] theorem ev_prim (g : List O → Option O) (as : M (List O)) (E : En) : mPrim g as E = (as E).bind fun xs E1 => match g xs with
  | some o => .ok o E1
  | none => .bad := rfl
@[simp] theorem ev_call (φ : List O → Cr) (vals : M (List O)) (E : En) : mCall φ vals E = (vals E).bind fun vs E1 => match φ vs with
  | .ok o _ => .ok o E1
  | .exc c => .exc c E1
  | .bad => .bad := rfl
@[simp] theorem ev_callS {i : Nat} {E : En} {s : O} (φ : List O → Cr) (vals : M (List O)) (h : E[i]? = some (some s)) : mCallS φ i vals E = (vals E).bind fun vs E1 => match E1[i]? with
    | some (some s) => match φ (s :: vs) with
      | .ok o s' => .ok o (E1.set i s')
      | .exc c => .exc c (E1.set i none)
      | .bad => .bad
    | _ => .bad := by unfold mCallS; rw [h]; try rfl
@[simp] theorem ev_tru (m : M O) (E : En) : mTru m E = (m E).bind fun o E1 => match tru o.toD with
  | some b => .ok b E1
  | none => .bad := rfl
@[simp] theorem ev_asB (m : M O) (E : En) : mAsB m E = (m E).bind fun o E1 => match o with
  | .fz (.bl b) => .ok b E1
  | _ => .bad := rfl
@[simp] theorem ev_not (m : M Bool) (E : En) : mNot m E = (m E).bind fun b E1 => .ok (!b) E1 := rfl
@[simp] theorem ev_and (m n : M Bool) (E : En) : mAnd m n E = (m E).bind fun b E1 => if b then n E1 else .ok false E1 := rfl
@[simp] theorem ev_or (m n : M Bool) (E : En) : mOr m n E = (m E).bind fun b E1 => if b then .ok true E1 else n E1 := rfl
@[simp] theorem ev_ite (c : M Bool) (m n : M O) (E : En) : mIte c m n E = (c E).bind fun b E1 => if b then m E1 else n E1 := rfl
@[simp] theorem ev_andV (m n : M O) (E : En) : mAndV m n E = (m E).bind fun o E1 => match o with
  | .fz (.bl true) => n E1
  | .fz (.bl false) => .ok (.fz (.bl false)) E1
  | _ => .bad := rfl
@[simp] theorem ev_orV (m n : M O) (E : En) : mOrV m n E = (m E).bind fun o E1 => match o with
  | .fz (.bl false) => n E1
  | .fz (.bl true) => .ok (.fz (.bl true)) E1
  | _ => .bad := rfl
@[simp] theorem ev_notV (m : M O) (E : En) : mNotV m E = (m E).bind fun o E1 => match o with
  | .fz (.bl b) => .ok (.fz (.bl (!b))) E1
  | _ => .bad := rfl
@[simp] theorem ev_for (t : Mt) (mi : M (List D)) (b : Ms) (E : En) : mFor t mi b E = (mi E).fl fun ds E1 => fIter t b ds E1 := rfl
@[simp] theorem ev_val (m : M O) (E : En) : iVal m E = (m E).bind fun o E1 => match itD o.toD with
  | some ds => .ok ds E1
  | none => .bad := rfl
@[simp] theorem ev_args (g : List O → Option (List D)) (ms : M (List O)) (E : En) : iArgs g ms E = (ms E).bind fun os E1 => match g os with
  | some ds => .ok ds E1
  | none => .bad := rfl
@[simp] theorem ev_comp (own : List Nat) (t : Mt) (mi : M (List D)) (c : M Bool) (m : M O) (E : En) : mComp own t mi c m E = (mi E).bind fun ds E1 => (cIter own t c m ds [] (wipeE E1 own)).only fun os E2 => .ok (.lst os) E2 := rfl
@[simp] theorem ev_dcomp (own : List Nat) (t : Mt) (mi : M (List D)) (c : M Bool) (mk m : M O) (E : En) : mDComp own t mi c mk m E = (mi E).bind fun ds E1 => (dIter own t c mk m ds [] (wipeE E1 own)).only fun os E2 => .ok (.dct os) E2 := rfl
@[simp] theorem ev_yes (E : En) : mYes E = .ok true E := rfl
@[simp] theorem ev_isi (T : String) (m : M O) (E : En) : mIsi T m E = (m E).bind fun o E1 => match isTy T o.toD with
  | some b => .ok (.fz (.bl b)) E1
  | none => .bad := rfl
@[simp] theorem ev_idx {i : Nat} {E : En} {o : O} (mk : M O) (h : E[i]? = some (some o)) : mIdx i mk E = (mk E).bind fun k E1 => match E1[i]? with
    | some (some o) => match atO o k.toD with
      | some (.fz d) => .ok (.fz d) E1
      | some o' => .ok (.fz o'.toD) (E1.set i (some (.fz o.toD)))
      | none => .bad
    | _ => .bad := by unfold mIdx; rw [h]; try rfl
@[simp] theorem ev_rd {i : Nat} {E : En} {o : O} (g : D → Option D) (h : E[i]? = some (some o)) : mRd1 g i E = match g o.toD with
    | some d => .ok (.fz d) E
    | none => .bad := by unfold mRd1; rw [h]; try rfl
@[simp] theorem ev_in2 (g : D → D → Option D) (ma : M O) (i : Nat) (E : En) : mIn2 g ma i E = (ma E).bind fun a E1 => match E1[i]? with
  | some (some o) => match g a.toD o.toD with
    | some d => .ok (.fz d) E1
    | none => .bad
  | _ => .bad := rfl
@[simp] theorem ev_truB {i : Nat} {E : En} {o : O} (h : E[i]? = some (some o)) : mTruB i E = match tru o.toD with
    | some b => .ok b E
    | none => .bad := by unfold mTruB; rw [h]; try rfl
@[simp] theorem ev_slice (ma : M O) (ml mh : M (Option Int)) (E : En) : mSlice ma ml mh E = (ma E).bind fun a E1 => (ml E1).bind fun lo E2 => (mh E2).bind fun hi E3 => match cutO lo hi a.toD with
  | some o => .ok o E3
  | none => .bad := rfl
@[simp] theorem ev_no (E : En) : mNo E = .ok none E := rfl
@[simp] theorem ev_part (m : M O) (E : En) : mPart m E = (m E).bind fun o E1 => match o.int? with
  | some i => .ok (some i) E1
  | none => .bad := rfl
@[simp] theorem ev_chain (g g' : D → D → Option D) (ma mb mc : M O) (E : En) : mChain g g' ma mb mc E = (ma E).bind fun x E1 => (mb E1).bind fun y E2 => match g x.toD y.toD with
  | some (.bl true) => (mc E2).bind fun z E3 => match g' y.toD z.toD with
    | some d => .ok (.fz d) E3
    | none => .bad
  | some (.bl false) => .ok (.fz (.bl false)) E2
  | _ => .bad := rfl
@[simp] theorem ev_dct0 (E : En) : mDct0 E = .ok (.dct []) E := rfl
@[simp] theorem ev_meth {i : Nat} {E : En} {xs : List O} (u : O → List O → Option (O × O)) (vals : M (List O)) (h : E[i]? = some (some (.lst xs))) : mMeth u i vals E = (vals E).bind fun vs E1 => match E1[i]? with
    | some (some o) => match u o vs with
      | some (res, o') => .ok res (E1.set i (some o'))
      | none => .bad
    | _ => .bad := by unfold mMeth; rw [h]; try rfl
@[simp] theorem ev_sub {i : Nat} {E : En} {o : O} (mk : M O) (x : O) (h : E[i]? = some (some o)) : tSub i mk x E = (mk E).bind fun k E1 => match E1[i]? with
    | some (some o) => match setO o k.toD x with
      | some o' => .ok () (E1.set i (some o'))
      | none => .bad
    | _ => .bad := by unfold tSub; rw [h]; try rfl
@[simp] theorem ev_rev (ma : M O) (E : En) : mRevT ma E = (ma E).bind fun a E1 => match revT a.toD with
  | some d => .ok (.fz d) E1
  | none => .bad := rfl
@[simp] theorem ev_tup (ts : List Mt) (ds : List D) (E : En) : tTup ts (.fz (.tup ds)) E = match tGo ts ds E with
    | some E' => .ok () E'
    | none => .bad := rfl
@[simp] theorem go_nil (E : En) : tGo [] [] E = some E := rfl
@[simp] theorem go_cons (t : Mt) (ts : List Mt) (d : D) (ds : List D) (E : En) : tGo (t :: ts) (d :: ds) E = match t (.fz d) E with
    | .ok _ E1 => tGo ts ds E1
    | _ => none := rfl
@[simp] theorem only_exc {α β : Type} (c : Nat) (E : En) (k : α → En → R β) : (R.exc c E : R α).only k = .bad := rfl
@[simp] theorem only_bad {α β : Type} (k : α → En → R β) : (R.bad : R α).only k = .bad := rfl
@[simp] theorem fl_exc {α : Type} (c : Nat) (E : En) (k : α → En → Fl) : (R.exc c E : R α).fl k = .exc c E := rfl
@[simp] theorem fl_bad {α : Type} (k : α → En → Fl) : (R.bad : R α).fl k = .bad := rfl
@[simp] theorem seq_bad (k : En → Fl) : Fl.bad.seq k = .bad := rfl
@[simp] theorem ty_tup_tup (ds : List D) : isTy "tuple" (.tup ds) = some true := by rw [isTy]; rfl
@[simp] theorem ty_tup_str (s : List Nat) : isTy "tuple" (.str s) = some false := by rw [isTy]; rfl
@[simp] theorem ty_tup_int (i : Int) : isTy "tuple" (.int i) = some false := by rw [isTy]; rfl
@[simp] theorem ty_str_tup (ds : List D) : isTy "str" (.tup ds) = some false := by rw [isTy]; rfl
@[simp] theorem ty_str_str (s : List Nat) : isTy "str" (.str s) = some true := by rw [isTy]; rfl
@[simp] theorem ty_str_int (i : Int) : isTy "str" (.int i) = some false := by rw [isTy]; rfl
@[simp] theorem ty_int_tup (ds : List D) : isTy "int" (.tup ds) = some false := by rw [isTy]; rfl
@[simp] theorem ty_int_str (s : List Nat) : isTy "int" (.str s) = some false := by rw [isTy]; rfl
@[simp] theorem ty_int_int (i : Int) : isTy "int" (.int i) = some true := by rw [isTy]; rfl
@[simp] theorem ty_bl_tup (ds : List D) : isTy "bool" (.tup ds) = some false := by rw [isTy]; rfl
@[simp] theorem ty_bl_str (s : List Nat) : isTy "bool" (.str s) = some false := by rw [isTy]; rfl
@[simp] theorem ty_bl_int (i : Int) : isTy "bool" (.int i) = some false := by rw [isTy]; rfl
@[simp] theorem toD_fz (d : D) : (O.fz d).toD = d := by rw [O.toD]
@[simp] theorem toD_lst (xs : List O) : (O.lst xs).toD = .lst (O.toDs xs) := by rw [O.toD]
@[simp] theorem toDs_nil : O.toDs [] = [] := by rw [O.toDs]
@[simp] theorem toDs_cons (x : O) (xs : List O) : O.toDs (x :: xs) = x.toD :: O.toDs xs := by rw [O.toDs]

/-! the rules together -/
theorem at_int_nat (ds : List D) (k : Nat) : atI ds (k : Int) = ds[k]? := by
  unfold atI ixN
  rw [if_pos (by omega)]
  by_cases h : k < ds.length
  · rw [if_pos (by omega)]; simp
  · rw [if_neg (by omega), List.getElem?_eq_none (by omega)]; rfl
@[simp] theorem bind_ok' {α β : Type} (a : α) (E : En) (k : α → En → R β) : (R.ok a E).bind k = k a E := rfl
@[simp] theorem bind_exc' {α β : Type} (c : Nat) (E : En) (k : α → En → R β) : (R.exc c E : R α).bind k = .exc c E := rfl
@[simp] theorem bind_bad' {α β : Type} (k : α → En → R β) : (R.bad : R α).bind k = .bad := rfl
@[simp] theorem fl_ok' {α : Type} (a : α) (E : En) (k : α → En → Fl) : (R.ok a E).fl k = k a E := rfl
@[simp] theorem seq_next' (E : En) (k : En → Fl) : (Fl.next E).seq k = k E := rfl
@[simp] theorem seq_ret' (o : O) (E : En) (k : En → Fl) : (Fl.ret o E).seq k = .ret o E := rfl
@[simp] theorem seq_brk' (E : En) (k : En → Fl) : (Fl.brk E).seq k = .brk E := rfl
@[simp] theorem seq_cont' (E : En) (k : En → Fl) : (Fl.cont E).seq k = .cont E := rfl
@[simp] theorem seq_exc' (c : Nat) (E : En) (k : En → Fl) : (Fl.exc c E).seq k = .exc c E := rfl
@[simp] theorem only_ok' {α β : Type} (a : α) (E : En) (k : α → En → R β) : (R.ok a E).only k = k a E := rfl
end Mn

set_option Elab.async false
set_option linter.all false
set_option maxRecDepth 100000
set_option maxHeartbeats 4000000
/-! the draws that all laws share -/
namespace Mn
open PySem PySem.Spec PyProof.Rows L2
@[simp] theorem v_addI (i j : Int) : pAdd [.fz (.int i), .fz (.int j)] = some (.fz (.int (i + j))) := by simp [pAdd, orO, pAddI, dII]
@[simp] theorem v_subI (i j : Int) : pSub [.fz (.int i), .fz (.int j)] = some (.fz (.int (i - j))) := by simp [pSub, dII]
theorem v_mulI {i j : Int} (h : i.natAbs.log2 + j.natAbs.log2 < 1000000) : pMulI [.fz (.int i), .fz (.int j)] = some (.fz (.int (i * j))) := by simp [pMulI, dIIc, h]
theorem v_div {i j : Int} (h : 0 < j) (h2 : j < 1073741824) : pDiv [.fz (.int i), .fz (.int j)] = some (.fz (.int (i / j))) := by simp [pDiv, dIIc, h, h2]
theorem v_mod {i j : Int} (h : 0 < j) : pMod [.fz (.int i), .fz (.int j)] = some (.fz (.int (i % j))) := by simp [pMod, dIIc, h]
@[simp] theorem v_gt (i j : Int) : pGt [.fz (.int i), .fz (.int j)] = some (.fz (.bl (decide (j < i)))) := by simp [pGt, dOrd]
@[simp] theorem v_lt (i j : Int) : pLt [.fz (.int i), .fz (.int j)] = some (.fz (.bl (decide (i < j)))) := by simp [pLt, dOrd]
@[simp] theorem v_ge (i j : Int) : pGe [.fz (.int i), .fz (.int j)] = some (.fz (.bl (decide (j ≤ i)))) := by simp [pGe, dOrd]
@[simp] theorem v_le (i j : Int) : pLe [.fz (.int i), .fz (.int j)] = some (.fz (.bl (decide (i ≤ j)))) := by simp [pLe, dOrd]
@[simp] theorem v_ltS (i j : List Nat) : pLt [.fz (.str i), .fz (.str j)] = some (.fz (.bl (decide (i < j)))) := by simp [pLt, dOrd]
@[simp] theorem v_leS (i j : List Nat) : pLe [.fz (.str i), .fz (.str j)] = some (.fz (.bl (!decide (j < i)))) := by simp [pLe, dOrd]
@[simp] theorem v_neg (i : Int) : pNeg [.fz (.int i)] = some (.fz (.int (-i))) := by simp [pNeg, dU]
@[simp] theorem v_ofInt (i : Int) : g1 dOfInt [.fz (.int i)] = some (.fz (.int i)) := by simp [g1, dOfInt]
@[simp] theorem v_abs (i : Int) : g1 dAbs [.fz (.int i)] = some (.fz (.int (if i < 0 then -i else i))) := by simp [g1, dAbs]
@[simp] theorem v_lenL (ds : List D) : g1 dLen [.fz (.lst ds)] = some (.fz (.int ds.length)) := by simp [g1, dLen]
@[simp] theorem v_lenT (ds : List D) : g1 dLen [.fz (.tup ds)] = some (.fz (.int ds.length)) := by simp [g1, dLen]
@[simp] theorem d_lenL (ds : List D) : dLen (.lst ds) = some (.int ds.length) := by simp [dLen]
@[simp] theorem d_lenT (ds : List D) : dLen (.tup ds) = some (.int ds.length) := by simp [dLen]
@[simp] theorem d_eqI (i j : Int) : qEq false (.int i) (.int j) = some (.bl (decide (i = j))) := by simp [qEq, sEq]
@[simp] theorem d_neI (i j : Int) : qEq true (.int i) (.int j) = some (.bl (!decide (i = j))) := by simp [qEq, sEq]
@[simp] theorem d_eqS (i j : List Nat) : qEq false (.str i) (.str j) = some (.bl (decide (i = j))) := by simp [qEq, sEq]
@[simp] theorem d_neS (i j : List Nat) : qEq true (.str i) (.str j) = some (.bl (!decide (i = j))) := by simp [qEq, sEq]
@[simp] theorem d_neIS (i : Int) (j : List Nat) : qEq true (.int i) (.str j) = some (.bl true) := by simp [qEq, sEq]
@[simp] theorem d_eqIS (i : Int) (j : List Nat) : qEq false (.int i) (.str j) = some (.bl false) := by simp [qEq, sEq]
@[simp] theorem v_g2 (g : D → D → Option D) (a b : D) : g2 g [.fz a, .fz b] = (g a b).map O.fz := by simp [g2]
@[simp] theorem t_bl (b : Bool) : tru (.bl b) = some b := rfl
@[simp] theorem t_int (i : Int) : tru (.int i) = some (i != 0) := rfl
@[simp] theorem it_tup (ds : List D) : itD (.tup ds) = some ds := rfl
@[simp] theorem it_lst (ds : List D) : itD (.lst ds) = some ds := rfl
@[simp] theorem at_L (xs : List O) (i : Int) : atO (.lst xs) (.int i) = atI xs i := rfl
@[simp] theorem at_F (d : D) (i : Int) : atO (.fz d) (.int i) = (itemD d (.int i)).map O.fz := by cases d <;> rfl
@[simp] theorem item_T (ds : List D) (i : Int) : itemD (.tup ds) (.int i) = atI ds i := rfl
@[simp] theorem item_L (ds : List D) (i : Int) : itemD (.lst ds) (.int i) = atI ds i := rfl
@[simp] theorem v_itemT (ds : List D) (i : Int) : pItem [.fz (.tup ds), .fz (.int i)] = (atI ds i).map O.fz := by simp [pItem]
@[simp] theorem v_itemL (ds : List D) (i : Int) : pItem [.fz (.lst ds), .fz (.int i)] = (atI ds i).map O.fz := by simp [pItem]
@[simp] theorem v_tup (os : List O) : pTup os = if os.length ≤ sizeLine then some (.fz (.tup (O.toDs os))) else none := rfl
@[simp] theorem v_lst (os : List O) : pLst os = if os.length ≤ sizeLine then some (.lst os) else none := rfl
@[simp] theorem atI0 {α : Type} (x : α) (xs : List α) : atI (x :: xs) 0 = some x := by simp [atI, ixN]
theorem atI_nat {α : Type} (xs : List α) {i : Int} (h0 : 0 ≤ i) (h : i < xs.length) : atI xs i = xs[i.toNat]? := by
  unfold atI ixN
  rw [if_pos h0, if_pos h]
  rfl
/-- what a state holds: the script, the place, the pool, how many draws there were -/
def St (C : Nat) (o : O) : Prop := ∃ (ns : List Int) (pos pool cnt : Int), o = .lst [.fz (.lst (ns.map D.int)), .fz (.int pos), .fz (.int pool), .fz (.int cnt)] ∧ 0 ≤ pos ∧ 0 ≤ pool ∧ 0 ≤ cnt ∧ cnt ≤ C
theorem St.mono {C C' : Nat} {o : O} (h : St C o) (hc : C ≤ C') : St C' o := by
  obtain ⟨ns, pos, pool, cnt, h1, h2, h3, h4, h5⟩ := h
  exact ⟨ns, pos, pool, cnt, h1, h2, h3, h4, by omega⟩
def drawB : Ms :=
    (mSeq (mAsg (tSub 0 (mLit (.int 3))) (mPrim pAdd (mCons (mIdx 0 (mLit (.int 3))) (mCons (mLit (.int 1)) mNil))))
    (mSeq (mIf (mAsB (mPrim pGt (mCons (mIdx 0 (mLit (.int 2))) (mCons (mLit (.int 0)) mNil))))
    (mSeq (mAsg (tName 2) (mPrim pMod (mCons (mPrim (g1 dOfInt) (mCons (mIdx 0 (mLit (.int 2))) mNil)) (mCons (mVar 1) mNil))))
    (mSeq (mAsg (tSub 0 (mLit (.int 2))) (mPrim pDiv (mCons (mIdx 0 (mLit (.int 2))) (mCons (mVar 1) mNil))))
    (mRet (mVar 2))))
    mDone)
    (mSeq (mAsg (tName 3) (mLit (.int 0)))
    (mSeq (mIf (mAsB (mPrim pGt (mCons (mPrim (g1 dLen) (mCons (mIdx 0 (mLit (.int 0))) mNil)) (mCons (mLit (.int 0)) mNil))))
    (mAsg (tName 3) (mPrim (g1 dAbs) (mCons (mPrim pItem (mCons (mIdx 0 (mLit (.int 0))) (mCons (mPrim pMod (mCons (mPrim (g1 dOfInt) (mCons (mIdx 0 (mLit (.int 1))) mNil)) (mCons (mPrim (g1 dLen) (mCons (mIdx 0 (mLit (.int 0))) mNil)) mNil))) mNil))) mNil)))
    mDone)
    (mSeq (mAsg (tSub 0 (mLit (.int 1))) (mPrim pAdd (mCons (mIdx 0 (mLit (.int 1))) (mCons (mLit (.int 1)) mNil))))
    (mSeq (mIf (mAsB (mPrim pGe (mCons (mVar 3) (mCons (mPrim pPow (mCons (mLit (.int 10)) (mCons (mLit (.int 18)) mNil))) mNil))))
    (mSeq (mAsg (tSub 0 (mLit (.int 2))) (mPrim pDiv (mCons (mVar 3) (mCons (mVar 1) mNil))))
    (mRet (mPrim pMod (mCons (mPrim (g1 dOfInt) (mCons (mVar 3) mNil)) (mCons (mVar 1) mNil)))))
    mDone)
    (mSeq (mAsg (tName 4) (mPrim pMod (mCons (mPrim (g1 dOfInt) (mCons (mPrim pAdd (mCons (mPrim pMulI (mCons (mPrim pAdd (mCons (mVar 3) (mCons (mLit (.int 1)) mNil))) (mCons (mLit (.int 48271)) mNil))) (mCons (mPrim pMulI (mCons (mIdx 0 (mLit (.int 3))) (mCons (mLit (.int 69621)) mNil))) mNil))) mNil)) (mCons (mLit (.int 2147483647)) mNil))))
    (mSeq (mAsg (tName 4) (mPrim pMod (mCons (mPrim (g1 dOfInt) (mCons (mPrim pAdd (mCons (mPrim pAdd (mCons (mPrim pMulI (mCons (mVar 4) (mCons (mLit (.int 16807)) mNil))) (mCons (mPrim pDiv (mCons (mVar 3) (mCons (mLit (.int 97)) mNil))) mNil))) (mCons (mIdx 0 (mLit (.int 3))) mNil))) mNil)) (mCons (mLit (.int 2147483629)) mNil))))
    (mRet (mPrim pMod (mCons (mPrim pDiv (mCons (mVar 4) (mCons (mLit (.int 11)) mNil))) (mCons (mVar 1) mNil))))))))))))
theorem log_lt {a : Int} {k : Nat} (h0 : 0 ≤ a) (h : a < 2 ^ k) (hk : 0 < k) : a.natAbs.log2 < k := by
  by_cases ha : a.natAbs = 0
  · rw [ha]; simpa using hk
  · have : a.natAbs < 2 ^ k := by
      have e : (a.natAbs : Int) = a := Int.natAbs_of_nonneg h0
      have : (a.natAbs : Int) < ((2 ^ k : Nat) : Int) := by rw [e]; simpa using h
      exact_mod_cast this
    exact (Nat.log2_lt ha).mpr this
theorem at3 (a b c d : O) : atI [a, b, c, d] 3 = some d := rfl
theorem at2 (a b c d : O) : atI [a, b, c, d] 2 = some c := rfl
theorem at1 (a b c d : O) : atI [a, b, c, d] 1 = some b := rfl
theorem set3 (a b c d x : O) : setO (.lst [a, b, c, d]) (.int 3) x = some (.lst [a, b, c, x]) := rfl
theorem set2 (a b c d x : O) : setO (.lst [a, b, c, d]) (.int 2) x = some (.lst [a, b, x, d]) := rfl
theorem set1 (a b c d x : O) : setO (.lst [a, b, c, d]) (.int 1) x = some (.lst [a, x, c, d]) := rfl
theorem pow18 : pPow [.fz (.int 10), .fz (.int 18)] = some (.fz (.int 1000000000000000000)) := by simp [pPow, dIIc]
theorem draw_ok {C : Nat} {s : O} (h : St C s) {most : Int} (h1 : 1 ≤ most) (h2 : most < 1073741824) (hC : C < 2 ^ 60) :
    ∃ n s', fnOf true 3 drawB [s, .fz (.int most)] = .ok (.fz (.int n)) (some s') ∧ 0 ≤ n ∧ n < most ∧ St (C + 1) s' := by
  obtain ⟨ns, pos, pool, cnt, rfl, p1, p2, p3, p4⟩ := h
  have m0 : 0 < most := by omega
  by_cases hp : 0 < pool
  · refine ⟨pool % most, _, ?_, Int.emod_nonneg _ (by omega), Int.emod_lt_of_pos _ m0, ⟨ns, pos, pool / most, cnt + 1, rfl, p1, Int.ediv_nonneg p2 (by omega), by omega, by omega⟩⟩
    simp [fnOf, drawB, at3, at2, at1, set3, set2, set1, hp, v_mod m0, v_div m0 h2]
  · -- a new cell
    have hpool : pool = 0 := by omega
    subst hpool
    have cellOk : ∀ cell : Int, 0 ≤ cell → ∀ R : Cr, (∃ n s', R = .ok (.fz (.int n)) (some s') ∧ 0 ≤ n ∧ n < most ∧ St (C + 1) s') → ∃ n s', R = .ok (.fz (.int n)) (some s') ∧ 0 ≤ n ∧ n < most ∧ St (C + 1) s' := fun _ _ _ h => h
    have fin : ∀ cell : Int, 0 ≤ cell → (fnOf true 3 drawB [.lst [.fz (.lst (ns.map D.int)), .fz (.int pos), .fz (.int 0), .fz (.int cnt)], .fz (.int most)] =
        if 1000000000000000000 ≤ cell then .ok (.fz (.int (cell % most))) (some (.lst [.fz (.lst (ns.map D.int)), .fz (.int (pos + 1)), .fz (.int (cell / most)), .fz (.int (cnt + 1))]))
        else .ok (.fz (.int (((((cell + 1) * 48271 + (cnt + 1) * 69621) % 2147483647 * 16807 + cell / 97 + (cnt + 1)) % 2147483629 / 11) % most))) (some (.lst [.fz (.lst (ns.map D.int)), .fz (.int (pos + 1)), .fz (.int 0), .fz (.int (cnt + 1))]))) →
        ∃ n s', fnOf true 3 drawB [.lst [.fz (.lst (ns.map D.int)), .fz (.int pos), .fz (.int 0), .fz (.int cnt)], .fz (.int most)] = .ok (.fz (.int n)) (some s') ∧ 0 ≤ n ∧ n < most ∧ St (C + 1) s' := fun cell hc e => by
      rw [e]
      by_cases hb : 1000000000000000000 ≤ cell
      · rw [if_pos hb]
        exact ⟨_, _, rfl, Int.emod_nonneg _ (by omega), Int.emod_lt_of_pos _ m0, ⟨ns, pos + 1, cell / most, cnt + 1, rfl, by omega, Int.ediv_nonneg hc (by omega), by omega, by omega⟩⟩
      · rw [if_neg hb]
        exact ⟨_, _, rfl, Int.emod_nonneg _ (by omega), Int.emod_lt_of_pos _ m0, ⟨ns, pos + 1, 0, cnt + 1, rfl, by omega, by omega, by omega, by omega⟩⟩
    have mul1 : ∀ cell : Int, 0 ≤ cell → ¬ 1000000000000000000 ≤ cell → pMulI [.fz (.int (cell + 1)), .fz (.int 48271)] = some (.fz (.int ((cell + 1) * 48271))) := fun cell h0 hb => v_mulI (by
      have := log_lt (a := cell + 1) (k := 60) (by omega) (by omega) (by omega)
      have : (48271 : Int).natAbs.log2 < 20 := by decide
      omega)
    have mul2 : pMulI [.fz (.int (cnt + 1)), .fz (.int 69621)] = some (.fz (.int ((cnt + 1) * 69621))) := v_mulI (by
      have := log_lt (a := cnt + 1) (k := 62) (by omega) (by omega) (by omega)
      have : (69621 : Int).natAbs.log2 < 20 := by decide
      omega)
    have mul3 : ∀ x : Int, pMulI [.fz (.int (x % 2147483647)), .fz (.int 16807)] = some (.fz (.int (x % 2147483647 * 16807))) := fun x => v_mulI (by
      have := log_lt (a := x % 2147483647) (k := 32) (Int.emod_nonneg _ (by omega)) (by have := Int.emod_lt_of_pos x (b := 2147483647) (by omega); omega) (by omega)
      have : (16807 : Int).natAbs.log2 < 20 := by decide
      omega)
    by_cases hn : ns = []
    · subst hn
      refine fin 0 (by omega) ?_
      simp [fnOf, drawB, at3, at2, at1, set3, set2, set1, pow18, v_mod m0, v_mod (j := 2147483647) (by omega), v_mod (j := 2147483629) (by omega), v_div (j := 97) (by omega) (by omega), v_div (j := 11) (by omega) (by omega), mul2, mul3, v_mulI (i := 1) (j := 48271) (by decide)]
    · have hl : 0 < ns.length := List.length_pos_iff.mpr hn
      have hl' : (0 : Int) < (ns.length : Int) := by omega
      have i0 := Int.emod_nonneg pos (b := (ns.length : Int)) (by omega)
      have i1 := Int.emod_lt_of_pos pos hl'
      have hx : ∃ x, ns[(pos % (ns.length : Int)).toNat]? = some x := ⟨_, List.getElem?_eq_getElem (by omega)⟩
      obtain ⟨x, hx⟩ := hx
      have ha : atI (ns.map D.int) (pos % (ns.length : Int)) = some (.int x) := by
        rw [atI_map, atI_nat ns i0 i1, hx]; rfl
      refine fin (if x < 0 then -x else x) (by split <;> omega) ?_
      generalize hc : (if x < 0 then -x else x) = cell
      have c0 : 0 ≤ cell := by rw [← hc]; split <;> omega
      by_cases hb : 1000000000000000000 ≤ cell
      · simp [fnOf, drawB, at3, at2, at1, set3, set2, set1, pow18, hl, hn, v_mod hl', ha, hc, hb, v_mod m0, v_div m0 h2]
      · simp [fnOf, drawB, at3, at2, at1, set3, set2, set1, pow18, hl, hn, v_mod hl', ha, hc, hb, v_mod m0, v_mod (j := 2147483647) (by omega), v_mod (j := 2147483629) (by omega), v_div (j := 97) (by omega) (by omega), v_div (j := 11) (by omega) (by omega), mul1 cell c0 hb, mul2, mul3]
end Mn

set_option Elab.async false
set_option linter.all false
set_option maxRecDepth 100000
set_option maxHeartbeats 4000000
/-! comprehensions and walks, as a whole -/
namespace Mn
open PySem PySem.Spec PyProof.Rows L2
theorem cIter_map {own : List Nat} {t : Mt} {m : M O} {E0 : En} (hw : wipeE E0 own = E0) {g : D → O} : ∀ (ds : List D) (acc : List O), (∀ d ∈ ds, ∃ E1 E2, t (.fz d) E0 = .ok () E1 ∧ m E1 = .ok (g d) E2 ∧ wipeE E2 own = E0) → acc.length + ds.length ≤ sizeLine → cIter own t mYes m ds acc E0 = .ok (acc ++ ds.map g) E0
  | [], acc, _, _ => by simp [cIter, hw]
  | d :: ds, acc, h, hl => by
    obtain ⟨E1, E2, h1, h2, h3⟩ := h d (by simp)
    simp only [List.length_cons] at hl
    unfold cIter
    rw [h1, only_ok, ev_yes, only_ok]
    simp only [if_true]
    rw [h2, only_ok, if_pos (by omega), h3, cIter_map hw ds (acc ++ [g d]) (fun d hd => h d (by simp [hd])) (by simp; omega)]
    simp
/-- with a test -/
theorem cIter_filter {own : List Nat} {t : Mt} {c : M Bool} {m : M O} {E0 : En} (hw : wipeE E0 own = E0) {p : D → Bool} {g : D → O} : ∀ (ds : List D) (acc : List O), (∀ d ∈ ds, ∃ E1 E2, t (.fz d) E0 = .ok () E1 ∧ c E1 = .ok (p d) E2 ∧ (p d = false → wipeE E2 own = E0) ∧ (p d = true → ∃ E3, m E2 = .ok (g d) E3 ∧ wipeE E3 own = E0)) → acc.length + ds.length ≤ sizeLine → cIter own t c m ds acc E0 = .ok (acc ++ (ds.filter p).map g) E0
  | [], acc, _, _ => by simp [cIter, hw]
  | d :: ds, acc, h, hl => by
    obtain ⟨E1, E2, h1, h2, h3, h4⟩ := h d (by simp)
    simp only [List.length_cons] at hl
    unfold cIter
    rw [h1, only_ok, h2, only_ok]
    cases hp : p d with
    | false =>
      simp only [Bool.false_eq_true, if_false]
      rw [h3 hp, cIter_filter hw ds acc (fun d hd => h d (by simp [hd])) (by omega), List.filter_cons_of_neg (by simp [hp])]
    | true =>
      simp only [if_true]
      obtain ⟨E3, h5, h6⟩ := h4 hp
      rw [h5, only_ok, if_pos (by omega), h6, cIter_filter hw ds (acc ++ [g d]) (fun d hd => h d (by simp [hd])) (by simp; omega), List.filter_cons_of_pos hp]
      simp
theorem bools_map {α : Type} (p : α → Bool) : ∀ ds : List α, boolsOf (ds.map fun d => D.bl (p d)) = some (ds.map p)
  | [] => rfl
  | d :: ds => by
    show (boolsOf (ds.map fun d => D.bl (p d))).map (p d :: ·) = _
    rw [bools_map p ds]; rfl
theorem toDs_map' {α : Type} (g : α → D) (ds : List α) : O.toDs (ds.map fun d => O.fz (g d)) = ds.map g := by
  simp [toDs_eq, List.map_map, Function.comp_def]
theorem all_map {α : Type} (p : α → Bool) (ds : List α) : g1 dAll [.lst (ds.map fun d => O.fz (.bl (p d)))] = some (.fz (.bl (ds.all p))) := by
  simp only [g1, toD_lst, toDs_map' (fun d => D.bl (p d)), dAll, bools_map]
  simp [List.all_map, Function.comp_def]
theorem inF_strs (x : List Nat) (ns : List (List Nat)) : inF (.str x) (ns.map D.str) = some (decide (x ∈ ns)) := by
  have h1 : (ns.map D.str).all D.flat = true := by simp [D.flat, List.all_map, Function.comp_def]
  unfold inF
  rw [if_pos ⟨rfl, h1⟩]
  congr 1
  rw [Bool.eq_iff_iff]
  simp [List.any_map, Function.comp_def, eqF]
/-- a tuple or a list of texts -/
def Strs (d : D) (ns : List (List Nat)) : Prop := d = .tup (ns.map D.str) ∨ d = .lst (ns.map D.str)
theorem in_strs {d : D} {ns : List (List Nat)} (h : Strs d ns) (n : Bool) (x : List Nat) : qIn n (.str x) d = some (.bl (decide (x ∈ ns) != n)) := by
  rcases h with rfl | rfl
  · simp [qIn, dIn, inF_strs]
  · simp [qIn, dIn, inF_strs]
end Mn

set_option Elab.async false
set_option linter.all false
set_option maxRecDepth 100000
set_option maxHeartbeats 4000000
/-! what the laws draw: one of a list, a form -/
namespace Mn
open PySem PySem.Spec PyProof.Rows L2
/-- a comprehension that draws: which items stay is open -/
theorem cIter_st {own : List Nat} {t : Mt} {c : M Bool} {m : M O} (N : Nat) (Iv : Nat → En → Prop) (Ac : D → O → Prop) (hw : ∀ j E, Iv j E → wipeE E own = E) :
    ∀ (ds : List D) (acc : List O) (j : Nat) (E : En), Iv j E → j + ds.length ≤ N → (∀ d ∈ ds, ∀ j E, j < N → Iv j E → ∃ E1, t (.fz d) E = .ok () E1 ∧ ∃ b E2, c E1 = .ok b E2 ∧ (b = false → Iv (j + 1) (wipeE E2 own)) ∧ (b = true → ∃ o E3, m E2 = .ok o E3 ∧ Ac d o ∧ Iv (j + 1) (wipeE E3 own))) →
    acc.length + ds.length ≤ sizeLine → ∃ (rows : List (D × O)) (E' : En), cIter own t c m ds acc E = .ok (acc ++ rows.map (·.2)) E' ∧ (rows.map (·.1)).Sublist ds ∧ (∀ p ∈ rows, Ac p.1 p.2) ∧ Iv (j + ds.length) E'
  | [], acc, j, E, h, _, _, _ => ⟨[], E, by simp [cIter, hw j E h], by simp, by simp, h⟩
  | d :: ds, acc, j, E, h, hN, hs, hl => by
    simp only [List.length_cons] at hl hN
    obtain ⟨E1, h1, b, E2, h2, h3, h4⟩ := hs d (by simp) j E (by omega) h
    unfold cIter
    rw [h1, only_ok, h2, only_ok]
    cases b with
    | false =>
      simp only [Bool.false_eq_true, if_false]
      obtain ⟨rows, E', g1, g2, g3, g4⟩ := cIter_st N Iv Ac hw ds acc (j + 1) _ (h3 rfl) (by omega) (fun d hd => hs d (by simp [hd])) (by omega)
      refine ⟨rows, E', g1, g2.trans (List.sublist_cons_self _ _), g3, ?_⟩
      rw [List.length_cons, show j + (ds.length + 1) = j + 1 + ds.length by omega]
      exact g4
    | true =>
      simp only [if_true]
      obtain ⟨o, E3, h5, h6, h7⟩ := h4 rfl
      rw [h5, only_ok, if_pos (by omega)]
      obtain ⟨rows, E', g1, g2, g3, g4⟩ := cIter_st N Iv Ac hw ds (acc ++ [o]) (j + 1) _ h7 (by omega) (fun d hd => hs d (by simp [hd])) (by simp; omega)
      refine ⟨(d, o) :: rows, E', by rw [g1]; simp, by simpa using g2, fun p hp => ?_, ?_⟩
      · rcases List.mem_cons.mp hp with rfl | hp
        · exact h6
        · exact g3 p hp
      · rw [List.length_cons, show j + (ds.length + 1) = j + 1 + ds.length by omega]
        exact g4
/-- a walk by an invariant, every turn going on -/
theorem fIter_inv {t : Mt} {b : Ms} (N : Nat) (Iv : Nat → En → Prop) : ∀ (ds : List D) (j : Nat) (E : En), Iv j E → j + ds.length ≤ N → (∀ d ∈ ds, ∀ j E, j < N → Iv j E → ∃ E1, t (.fz d) E = .ok () E1 ∧ ∃ E2, b E1 = .next E2 ∧ Iv (j + 1) E2) → ∃ E', fIter t b ds E = .next E' ∧ Iv (j + ds.length) E'
  | [], j, E, h, _, _ => ⟨E, rfl, h⟩
  | d :: ds, j, E, h, hN, hs => by
    simp only [List.length_cons] at hN
    obtain ⟨E1, h1, E2, h2, h3⟩ := hs d (by simp) j E (by omega) h
    obtain ⟨E', g1, g2⟩ := fIter_inv N Iv ds (j + 1) E2 h3 (by omega) fun d hd => hs d (by simp [hd])
    refine ⟨E', ?_, ?_⟩
    · unfold fIter
      rw [h1, fl_ok, h2]
      exact g1
    · rw [List.length_cons, show j + (ds.length + 1) = j + 1 + ds.length by omega]
      exact g2
/-- a function that draws: from a state, one draw of less than most -/
def Draws (dr : List O → Cr) : Prop := ∀ (C : Nat) (s : O), St C s → C < 2 ^ 60 → ∀ most : Int, 1 ≤ most → most < 1073741824 → ∃ n s', dr [s, .fz (.int most)] = .ok (.fz (.int n)) (some s') ∧ 0 ≤ n ∧ n < most ∧ St (C + 1) s'
theorem drawB_ok : Draws (fnOf true 3 drawB) := fun C s h hC most h1 h2 => draw_ok h h1 h2 hC
/-- a list, frozen or own -/
def Lsts (o : O) (ds : List D) : Prop := o = .fz (.lst ds) ∨ o = .lst (ds.map O.fz)
def oneB (dr : List O → Cr) : Ms := (mRet (mIdx 1 (mCallS dr 0 (mCons (mRd1 dLen 1) mNil))))
theorem one_ok {dr : List O → Cr} (hd : Draws dr) {C : Nat} {s o : O} {ds : List D} (h : St C s) (hC : C < 2 ^ 60) (ho : Lsts o ds) (h0 : ds ≠ []) (hl : ds.length < 1000000) :
    ∃ d s', fnOf true 0 (oneB dr) [s, o] = .ok (.fz d) (some s') ∧ d ∈ ds ∧ St (C + 1) s' := by
  have hp : 0 < ds.length := List.length_pos_iff.mpr h0
  obtain ⟨n, s', h1, h2, h3, h4⟩ := hd C s h hC ds.length (by omega) (by omega)
  have hi : ds[n.toNat]? = some ds[n.toNat] := List.getElem?_eq_getElem (by omega)
  have ha : atI ds n = some ds[n.toNat] := by rw [atI_nat ds h2 h3, hi]
  refine ⟨ds[n.toNat], s', ?_, List.getElem_mem _, h4⟩
  rcases ho with rfl | rfl
  · simp [fnOf, oneB, h1, ha]
  · simp [fnOf, oneB, h1, toDs_map, atI_map, ha]

/-! ### a form -/
def formB : Ms := (mSeq (mAsg (tName 2) mDct0)
    (mSeq (mFor (tTup [(tName 3), (tName 4)]) (iVal (mVar 1))
    (mAsg (tSub 2 (mVar 3)) (mPrim pAdd (mCons (mGet 2 (mVar 3) (mLit (.int 0))) (mCons (mVar 4) mNil)))))
    (mRet (mPrim pTup (mCons (mVar 0) (mCons (mPrim pTuple (mCons (mComp [3] (tName 3) (iVal (mPrim pSorted (mCons (mVar 2) mNil))) (mAsB (mPrim (g2 (qEq true)) (mCons (mIdx 2 (mVar 3)) (mCons (mLit (.int 0)) mNil)))) (mPrim pTup (mCons (mVar 3) (mCons (mIdx 2 (mVar 3)) mNil)))) mNil)) mNil))))))
/-- numbers by names -/
abbrev Tab := List (List Nat × Int)
def tabO (t : Tab) : List (KK × O) := t.map fun p => (.inr p.1, .fz (.int p.2))
def tabD (t : Tab) : List (KK × D) := t.map fun p => (.inr p.1, .int p.2)
def tget : Tab → List Nat → Option Int
  | [], _ => none
  | (x, v) :: r, y => if x = y then some v else tget r y
def tput : Tab → List Nat → Int → Tab
  | [], y, v => [(y, v)]
  | (x, u) :: r, y, v => if x = y then (x, v) :: r else (x, u) :: tput r y v
theorem tabO_look (t : Tab) (y : List Nat) : lookO (tabO t) (.inr y) = (tget t y).map fun v => .fz (.int v) := by
  induction t with
  | nil => rfl
  | cons p r ih =>
    obtain ⟨x, v⟩ := p
    show (if (Sum.inr x : KK) = .inr y then some (O.fz (.int v)) else lookO (tabO r) (.inr y)) = _
    unfold tget
    by_cases h : x = y
    · subst h; simp
    · rw [if_neg (by simpa using h), if_neg h, ih]
theorem tabO_put (t : Tab) (y : List Nat) (v : Int) : putO (tabO t) (.inr y) (.fz (.int v)) = tabO (tput t y v) := by
  induction t with
  | nil => rfl
  | cons p r ih =>
    obtain ⟨x, u⟩ := p
    show putO ((Sum.inr x, O.fz (.int u)) :: tabO r) (.inr y) (.fz (.int v)) = _
    unfold putO tput
    by_cases h : x = y
    · subst h; simp [tabO]
    · rw [if_neg (by simpa using h), if_neg h, ih]; rfl
theorem tput_keys (t : Tab) (y : List Nat) (v : Int) (nd : (t.map (·.1)).Nodup) : ((tput t y v).map (·.1)).Nodup ∧ (∀ x ∈ (tput t y v).map (·.1), x = y ∨ x ∈ t.map (·.1)) ∧ (tput t y v).length ≤ t.length + 1 ∧ (∀ p ∈ tput t y v, p.2 = v ∨ p ∈ t) := by
  induction t with
  | nil => simp [tput]
  | cons p r ih =>
    obtain ⟨x, u⟩ := p
    simp only [List.map_cons, List.nodup_cons] at nd
    obtain ⟨i1, i2, i3, i4⟩ := ih nd.2
    unfold tput
    by_cases h : x = y
    · rw [if_pos h]
      refine ⟨by simpa using nd, fun z hz => by simp at hz ⊢; rcases hz with rfl | hz <;> simp [*], by simp, fun p hp => ?_⟩
      rcases List.mem_cons.mp hp with rfl | hp
      · exact .inl rfl
      · exact .inr (List.mem_cons_of_mem _ hp)
    · rw [if_neg h]
      refine ⟨?_, fun z hz => ?_, by simp; omega, fun p hp => ?_⟩
      · rw [List.map_cons, List.nodup_cons]
        refine ⟨fun hx => ?_, i1⟩
        rcases i2 x hx with e | e
        · exact h e
        · exact nd.1 e
      · rw [List.map_cons] at hz
        rcases List.mem_cons.mp hz with rfl | hz
        · exact .inr (by simp)
        · rcases i2 z hz with e | e
          · exact .inl e
          · exact .inr (by rw [List.map_cons]; exact List.mem_cons_of_mem _ e)
      · rcases List.mem_cons.mp hp with rfl | hp
        · exact .inr (by simp)
        · rcases i4 p hp with e | e
          · exact .inl e
          · exact .inr (List.mem_cons_of_mem _ e)
theorem tget_mem {t : Tab} {y : List Nat} {v : Int} (h : tget t y = some v) : (y, v) ∈ t := by
  induction t with
  | nil => cases h
  | cons p r ih =>
    obtain ⟨x, u⟩ := p
    unfold tget at h
    by_cases e : x = y
    · rw [if_pos e] at h; cases h; subst e; simp
    · rw [if_neg e] at h; exact List.mem_cons_of_mem _ (ih h)
theorem tget_has {t : Tab} {y : List Nat} (h : y ∈ t.map (·.1)) : ∃ v, tget t y = some v := by
  induction t with
  | nil => simp at h
  | cons p r ih =>
    obtain ⟨x, u⟩ := p
    unfold tget
    by_cases e : x = y
    · exact ⟨u, by rw [if_pos e]⟩
    · rw [if_neg e]
      refine ih ?_
      simp at h ⊢
      rcases h with h | h
      · exact absurd h.symm e
      · exact h
theorem tabO_keys (t : Tab) : O.toKs (tabO t) = tabD t := by
  induction t with
  | nil => rw [tabO]; simp [O.toKs, tabD]
  | cons p r ih =>
    show O.toKs ((Sum.inr p.1, O.fz (.int p.2)) :: tabO r) = _
    rw [O.toKs, ih]
    simp [tabD]
theorem tabD_keys (t : Tab) : keysStr (tabD t) = some (t.map (·.1)) := by
  induction t with
  | nil => rfl
  | cons p r ih =>
    show (keysStr (tabD r)).map (p.1 :: ·) = _
    rw [ih]; rfl
theorem tabD_look (t : Tab) (y : List Nat) : lookK (tabD t) (.inr y) = (tget t y).map fun v => .int v := by
  induction t with
  | nil => rfl
  | cons p r ih =>
    obtain ⟨x, v⟩ := p
    show (if (Sum.inr x : KK) = .inr y then some (D.int v) else lookK (tabD r) (.inr y)) = _
    unfold tget
    by_cases h : x = y
    · subst h; simp
    · rw [if_neg (by simpa using h), if_neg h, ih]
/-- what the walk over the pairs sums up -/
def sumUp : Tab → Tab → Tab
  | t, [] => t
  | t, (x, v) :: r => sumUp (tput t x ((tget t x).getD 0 + v)) r
def termsOf (t : Tab) : List D := ((srtS (t.map (·.1))).filter fun x => (tget t x).getD 0 != 0).map fun x => .tup [.str x, .int ((tget t x).getD 0)]
def pairsD (ps : Tab) : List D := ps.map fun p => .tup [.str p.1, .int p.2]
theorem sumUp_facts : ∀ (ps t : Tab) (B : Nat), (t.map (·.1)).Nodup → (∀ p ∈ t, p.2.natAbs ≤ B) → (∀ p ∈ ps, p.2.natAbs ≤ 2) → ((sumUp t ps).map (·.1)).Nodup ∧ (∀ x ∈ (sumUp t ps).map (·.1), x ∈ t.map (·.1) ∨ x ∈ ps.map (·.1)) ∧ (sumUp t ps).length ≤ t.length + ps.length ∧ ∀ p ∈ sumUp t ps, p.2.natAbs ≤ B + 2 * ps.length
  | [], t, B, nd, hb, _ => ⟨nd, fun x hx => .inl hx, by simp [sumUp], fun p hp => by simpa [sumUp] using hb p hp⟩
  | (x, v) :: r, t, B, nd, hb, hp => by
    obtain ⟨k1, k2, k3, k4⟩ := tput_keys t x ((tget t x).getD 0 + v) nd
    have hv := hp (x, v) (by simp)
    have hg : ((tget t x).getD 0).natAbs ≤ B := by
      cases h : tget t x with
      | none => simp
      | some u => simpa using hb _ (tget_mem h)
    obtain ⟨i1, i2, i3, i4⟩ := sumUp_facts r (tput t x ((tget t x).getD 0 + v)) (B + 2) k1 (fun p hpp => by
      rcases k4 p hpp with e | e
      · rw [e]; simp at hv; omega
      · have := hb p e; omega) fun p hpp => hp p (by simp [hpp])
    refine ⟨i1, fun y hy => ?_, by simp [sumUp]; omega, fun p hpp => by have := i4 p hpp; simp; omega⟩
    rcases i2 y hy with e | e
    · rcases k2 y e with rfl | e
      · exact .inr (by simp)
      · exact .inl e
    · exact .inr (by simp at e ⊢; exact .inr e)
end Mn

set_option Elab.async false
set_option linter.all false
set_option maxRecDepth 100000
set_option maxHeartbeats 4000000
namespace Mn
open PySem PySem.Spec PyProof.Rows L2
theorem ev_get {i : Nat} {E : En} {t : Tab} {x : List Nat} {mk md : M O} (h : E[i]? = some (some (.dct (tabO t)))) (hk : mk E = .ok (.fz (.str x)) E) (hd : md E = .ok (.fz (.int 0)) E) : mGet i mk md E = .ok (.fz (.int ((tget t x).getD 0))) E := by
  unfold mGet
  rw [h]
  have e : atO (.dct (tabO t)) (.str x) = (tget t x).map fun v => .fz (.int v) := tabO_look t x
  simp [isDct, hk, hd, h, kOf, e]
  cases tget t x with
  | none => rfl
  | some v => rfl
theorem szt (n : Nat) (h : n ≤ 1000000) : n ≤ sizeLine := by rw [sizeLine_eq]; omega
theorem szu (n : Nat) (h : n ≤ 1000000) : n < sizeLine := by rw [sizeLine_eq]; omega
theorem form_walk {c : O} {pd : O} : ∀ (ps t : Tab) (x y : Option O), t.length + ps.length ≤ 1000000 → (t.map (·.1)).Nodup → ∃ x' y', fIter (tTup [(tName 3), (tName 4)]) (mAsg (tSub 2 (mVar 3)) (mPrim pAdd (mCons (mGet 2 (mVar 3) (mLit (.int 0))) (mCons (mVar 4) mNil)))) (pairsD ps) [some c, some pd, some (.dct (tabO t)), x, y] = .next [some c, some pd, some (.dct (tabO (sumUp t ps))), x', y']
  | [], t, x, y, _, _ => ⟨x, y, rfl⟩
  | (k, v) :: r, t, x, y, hl, nd => by
    simp only [List.length_cons] at hl
    have hg := ev_get (i := 2) (E := [some c, some pd, some (.dct (tabO t)), some (.fz (.str k)), some (.fz (.int v))]) (t := t) (x := k) (mk := mVar 3) (md := mLit (.int 0)) rfl (by simp) rfl
    have hs : setO (.dct (tabO t)) (.str k) (.fz (.int ((tget t k).getD 0 + v))) = some (.dct (tabO (tput t k ((tget t k).getD 0 + v)))) := by
      have hlt : (tabO t).length < sizeLine := by simp [tabO]; exact szu _ (by omega)
      simp only [setO, kOf]
      rw [if_pos hlt, tabO_put]
    obtain ⟨k1, _, k3, _⟩ := tput_keys t k ((tget t k).getD 0 + v) nd
    obtain ⟨x', y', e⟩ := form_walk (c := c) (pd := pd) r (tput t k ((tget t k).getD 0 + v)) (some (.fz (.str k))) (some (.fz (.int v))) (by omega) k1
    refine ⟨x', y', ?_⟩
    rw [show pairsD ((k, v) :: r) = .tup [.str k, .int v] :: pairsD r from rfl]
    unfold fIter
    simp [hg, hs]
    rw [e]
    rfl
theorem srtS_len (ns : List (List Nat)) : (srtS ns).length = ns.length := (List.mergeSort_perm ns leS).length_eq
theorem form_ok {ci : Int} {ps : Tab} (hl : ps.length < 64) : fnOf false 3 formB [.fz (.int ci), .fz (.lst (pairsD ps))] = .ok (.fz (.tup [.int ci, .tup (termsOf (sumUp [] ps))])) none := by
  obtain ⟨x', y', e⟩ := form_walk (c := .fz (.int ci)) (pd := .fz (.lst (pairsD ps))) ps [] none none (by simp; omega) (by simp)
  have hlen : ∀ (ps t : Tab), (t.map (·.1)).Nodup → (sumUp t ps).length ≤ t.length + ps.length := by
    intro ps
    induction ps with
    | nil => intro t _; simp [sumUp]
    | cons p r ih =>
      intro t nd
      obtain ⟨k1, _, k3, _⟩ := tput_keys t p.1 ((tget t p.1).getD 0 + p.2) nd
      have := ih (tput t p.1 ((tget t p.1).getD 0 + p.2)) k1
      show (sumUp (tput t p.1 ((tget t p.1).getD 0 + p.2)) r).length ≤ _
      simp; omega
  have hl2 := hlen ps [] (by simp)
  generalize ht : sumUp [] ps = t at e hl2
  simp at hl2
  have e1 : pSorted [.fz (.dct (tabD t))] = some (.lst ((srtS (t.map (·.1))).map fun n => .fz (.str n))) := by
    simp only [pSorted, toD_fz, oSorted, tabD_keys]
    rw [if_pos (by simp; omega)]
  have hk : ∀ x ∈ srtS (t.map (·.1)), ∃ v, tget t x = some v := fun x hx => tget_has ((List.mergeSort_perm _ _).mem_iff.mp hx)
  have hc := cIter_filter (own := [3]) (t := tName 3) (c := mAsB (mPrim (g2 (qEq true)) (mCons (mIdx 2 (mVar 3)) (mCons (mLit (.int 0)) mNil)))) (m := mPrim pTup (mCons (mVar 3) (mCons (mIdx 2 (mVar 3)) mNil)))
    (E0 := [some (.fz (.int ci)), some (.fz (.lst (pairsD ps))), some (.fz (.dct (tabD t))), none, y']) rfl
    (p := fun d => match d with
      | .str x => (tget t x).getD 0 != 0
      | _ => false) (g := fun d => match d with
      | .str x => .fz (.tup [.str x, .int ((tget t x).getD 0)])
      | _ => .fz .non) ((srtS (t.map (·.1))).map .str) [] (fun d hd => by
        obtain ⟨x, hx, rfl⟩ := List.mem_map.mp hd
        obtain ⟨v, hv⟩ := hk x hx
        have ha : atO (.fz (.dct (tabD t))) (.str x) = some (.fz (.int v)) := by
          show (lookK (tabD t) (.inr x)).map O.fz = _
          rw [tabD_look, hv]; rfl
        have z2 : 2 ≤ sizeLine := szt _ (by omega)
        refine ⟨_, _, by simp; rfl, by simp [ha, hv]; exact ⟨by by_cases h0 : v = 0 <;> simp [h0], rfl⟩, fun _ => rfl, fun _ => ⟨_, by simp [ha, hv, z2]; rfl, rfl⟩⟩) (by
      have : (srtS (t.map (·.1))).length = t.length := by rw [srtS_len]; simp
      simp [this]; exact szt _ (by omega))
  simp [List.filter_map, Function.comp_def] at hc
  have hlt : (termsOf t).length ≤ sizeLine := by
    have h1 : (termsOf t).length ≤ (srtS (t.map (·.1))).length := by simp only [termsOf, List.length_map]; exact List.length_filter_le _ _
    have : (srtS (t.map (·.1))).length = t.length := by rw [srtS_len]; simp
    exact Nat.le_trans (by omega : (termsOf t).length ≤ 1000000) (szt _ (Nat.le_refl _))
  have e0 : tabO ([] : Tab) = [] := rfl
  have z2 : 2 ≤ sizeLine := szt _ (by omega)
  rw [e0] at e
  simp [fnOf, formB, e, tabO_keys, e1, wipeE, toDs_eq, List.map_map, Function.comp_def]
  rw [hc]
  simp [pTuple, oTuple, toDs_eq, List.map_map, Function.comp_def, z2]
  have hlt' : (List.filter (fun x => (tget t x).getD 0 != 0) (srtS (List.map (fun x => x.fst) t))).length ≤ sizeLine := by simpa [termsOf] using hlt
  rw [if_pos hlt']
  simp [termsOf, z2]
end Mn

set_option Elab.async false
set_option linter.all false
set_option maxRecDepth 100000
set_option maxHeartbeats 4000000
namespace Mn
open PySem PySem.Spec PyProof.Rows L2
/-- a call that draws, at slot i -/
theorem ev_draw {dr : List O → Cr} {C : Nat} {s : O} {i : Nat} {E : En} {most : Int} (hd : Draws dr) (h : E[i]? = some (some s)) (hs : St C s) (hC : C < 2 ^ 60) (h1 : 1 ≤ most) (h2 : most < 1073741824) :
    ∃ n s', mCallS dr i (mCons (mLit (.int most)) mNil) E = .ok (.fz (.int n)) (E.set i (some s')) ∧ 0 ≤ n ∧ n < most ∧ St (C + 1) s' := by
  obtain ⟨n, s', e, a, b, c⟩ := hd C s hs hC most h1 h2
  exact ⟨n, s', by simp [h, e], a, b, c⟩
theorem ev_drawM {dr : List O → Cr} {C : Nat} {s : O} {i : Nat} {E : En} {most : Int} {m : M O} (hm : m E = .ok (.fz (.int most)) E) (hd : Draws dr) (h : E[i]? = some (some s)) (hs : St C s) (hC : C < 2 ^ 60) (h1 : 1 ≤ most) (h2 : most < 1073741824) :
    ∃ n s', mCallS dr i (mCons m mNil) E = .ok (.fz (.int n)) (E.set i (some s')) ∧ 0 ≤ n ∧ n < most ∧ St (C + 1) s' := by
  obtain ⟨n, s', e, a, b, c⟩ := hd C s hs hC most h1 h2
  exact ⟨n, s', by simp [h, hm, e], a, b, c⟩
def someFormB (dr fo : List O → Cr) : Ms := (mSeq (mAsg (tName 2) (mComp [3] (tName 3) (iVal (mVar 1)) (mAsB (mPrim (g2 (qEq false)) (mCons (mCallS dr 0 (mCons (mLit (.int 3)) mNil)) (mCons (mLit (.int 0)) mNil)))) (mPrim pTup (mCons (mVar 3) (mCons (mPrim pSub (mCons (mCallS dr 0 (mCons (mLit (.int 5)) mNil)) (mCons (mLit (.int 2)) mNil))) mNil)))))
    (mRet (mCall fo (mCons (mPrim pSub (mCons (mCallS dr 0 (mCons (mLit (.int 9)) mNil)) (mCons (mLit (.int 4)) mNil))) (mCons (mVar 2) mNil)))))
theorem rows_tab : ∀ (rows : List (D × O)), (∀ p ∈ rows, ∃ x v, p.1 = .str x ∧ p.2 = .fz (.tup [.str x, .int v]) ∧ v.natAbs ≤ 2) → ∃ ps : Tab, rows.map (·.2) = ps.map (fun p => O.fz (.tup [.str p.1, .int p.2])) ∧ rows.map (·.1) = (ps.map (·.1)).map D.str ∧ ∀ p ∈ ps, p.2.natAbs ≤ 2
  | [], _ => ⟨[], rfl, rfl, by simp⟩
  | r :: rows, h => by
    obtain ⟨x, v, h1, h2, h3⟩ := h r (by simp)
    obtain ⟨ps, g1, g2, g3⟩ := rows_tab rows fun p hp => h p (by simp [hp])
    refine ⟨(x, v) :: ps, by simp [h2, g1], by simp [h1, g2], fun p hp => ?_⟩
    rcases List.mem_cons.mp hp with rfl | hp
    · exact h3
    · exact g3 p hp
theorem toDs_pairs (ps : Tab) : O.toDs (ps.map fun p => O.fz (.tup [.str p.1, .int p.2])) = pairsD ps := by
  simp [toDs_eq, pairsD, List.map_map, Function.comp_def]
def strO : D → List Nat
  | .str s => s
  | _ => []
theorem str_inj {a b : List (List Nat)} (h : (a.map D.str).Sublist (b.map D.str)) : a.Sublist b := by
  have := h.map strO
  simpa [List.map_map, Function.comp_def, strO] using this
theorem some_form_ok {dr fo : List O → Cr} (hd : Draws dr) (hf : ∀ (ci : Int) (ps : Tab), ps.length < 64 → fo [.fz (.int ci), .fz (.lst (pairsD ps))] = .ok (.fz (.tup [.int ci, .tup (termsOf (sumUp [] ps))])) none)
    {C : Nat} {s o : O} {ns : List (List Nat)} (h : St C s) (hC : C + 1000 < 2 ^ 60) (ho : Lsts o (ns.map D.str)) (hn : ns.length < 64) :
    ∃ ci ps s', fnOf true 2 (someFormB dr fo) [s, o] = .ok (.fz (.tup [.int ci, .tup (termsOf (sumUp [] ps))])) (some s') ∧ ci.natAbs ≤ 4 ∧ (ps.map (·.1)).Sublist ns ∧ (∀ p ∈ ps, p.2.natAbs ≤ 2) ∧ St (C + 2 * ns.length + 1) s' := by
  have z2 : 2 ≤ sizeLine := szt _ (by omega)
  have hvar : iVal (mVar 1) [some s, some o, none, none] = .ok (ns.map D.str) [some s, some (.fz (.lst (ns.map D.str))), none, none] := by
    rcases ho with rfl | rfl
    · simp
    · simp [toDs_map, toDs_eq, List.map_map, Function.comp_def]
  obtain ⟨rows, E', e1, e2, e3, s1, e4, e5⟩ := cIter_st (own := [3]) (t := tName 3) (c := mAsB (mPrim (g2 (qEq false)) (mCons (mCallS dr 0 (mCons (mLit (.int 3)) mNil)) (mCons (mLit (.int 0)) mNil)))) (m := mPrim pTup (mCons (mVar 3) (mCons (mPrim pSub (mCons (mCallS dr 0 (mCons (mLit (.int 5)) mNil)) (mCons (mLit (.int 2)) mNil))) mNil))) ns.length
    (fun j E => ∃ s', E = [some s', some (.fz (.lst (ns.map D.str))), none, none] ∧ St (C + 2 * j) s') (fun d o => ∃ x v, d = .str x ∧ o = .fz (.tup [.str x, .int v]) ∧ v.natAbs ≤ 2) (fun j E ⟨s', e, _⟩ => by subst e; rfl) (ns.map D.str) [] 0 [some s, some (.fz (.lst (ns.map D.str))), none, none] ⟨s, rfl, by simpa using h⟩ (by simp) (fun d hdm j E hj ⟨s', e, hs⟩ => by
      subst e
      obtain ⟨x, hx, rfl⟩ := List.mem_map.mp hdm
      obtain ⟨n1, s1, a1, a2, a3, a4⟩ := hd _ s' hs (by omega) 3 (by omega) (by omega)
      refine ⟨_, rfl, decide (n1 = 0), [some s1, some (.fz (.lst (ns.map D.str))), none, some (.fz (.str x))], by simp [a1], fun _ => ⟨s1, rfl, a4.mono (by omega)⟩, fun _ => ?_⟩
      obtain ⟨n2, s2, b1, b2, b3, b4⟩ := hd _ s1 a4 (by omega) 5 (by omega) (by omega)
      refine ⟨.fz (.tup [.str x, .int (n2 - 2)]), [some s2, some (.fz (.lst (ns.map D.str))), none, some (.fz (.str x))], by simp [b1, z2], ⟨x, n2 - 2, rfl, rfl, by omega⟩, ⟨s2, rfl, b4.mono (by omega)⟩⟩) (by simp; exact szt _ (by omega))
  subst e4
  obtain ⟨ps, p1, p2, p3⟩ := rows_tab rows fun p hp => e3 p hp
  have hsub : (ps.map (·.1)).Sublist ns := str_inj (by rw [← p2]; exact e2)
  have hlen : ps.length < 64 := by have := hsub.length_le; simp at this; omega
  simp at e5
  obtain ⟨n3, s3, c1, c2, c3, c4⟩ := hd _ s1 e5 (by omega) 9 (by omega) (by omega)
  refine ⟨n3 - 4, ps, s3, ?_, by omega, hsub, p3, c4.mono (by omega)⟩
  simp only [List.nil_append] at e1
  rw [p1] at e1
  simp only [fnOf, someFormB, List.map_cons, List.map_nil, List.replicate, List.cons_append, List.nil_append, ev_seq, ev_asg, ev_comp, hvar, bind_ok]
  have hw : wipeE [some s, some (.fz (.lst (ns.map D.str))), none, none] [3] = [some s, some (.fz (.lst (ns.map D.str))), none, none] := rfl
  rw [hw, e1]
  simp [c1, toDs_pairs, hf _ _ hlen]
end Mn

set_option Elab.async false
set_option linter.all false
set_option maxRecDepth 100000
set_option maxHeartbeats 4000000
namespace Mn
open PySem PySem.Spec PyProof.Rows L2
theorem lt_ne {a b : List Nat} (h : a ≤ b) (n : a ≠ b) : a < b := by
  rcases Classical.em (a < b) with h1 | h1
  · exact h1
  · exact absurd (List.le_antisymm h (List.not_lt.mp h1)) n
/-- a drawn form over ns -/
def FormD (ns : List (List Nat)) (d : D) : Prop := ∃ (ci : Int) (rows : Tab), d = .tup [.int ci, .tup (pairsD rows)] ∧ ci.natAbs ≤ 4 ∧ (rows.map (·.1)).Pairwise (· < ·) ∧ (∀ p ∈ rows, p.1 ∈ ns ∧ p.2 ≠ 0 ∧ p.2.natAbs ≤ 200) ∧ rows.length < 64
theorem terms_facts {ps : Tab} {ns : List (List Nat)} (hs : (ps.map (·.1)).Sublist ns) (hv : ∀ p ∈ ps, p.2.natAbs ≤ 2) : ∃ rows : Tab, termsOf (sumUp [] ps) = pairsD rows ∧ (rows.map (·.1)).Pairwise (· < ·) ∧ (∀ p ∈ rows, p.1 ∈ ns ∧ p.2 ≠ 0 ∧ p.2.natAbs ≤ 2 * ps.length) ∧ rows.length ≤ ps.length := by
  obtain ⟨k1, k2, k3, k4⟩ := sumUp_facts ps [] 0 (by simp) (by simp) hv
  generalize sumUp [] ps = t at k1 k2 k3 k4
  simp at k2 k3 k4
  refine ⟨((srtS (t.map (·.1))).filter fun x => (tget t x).getD 0 != 0).map fun x => (x, (tget t x).getD 0), ?_, ?_, fun p hp => ?_, ?_⟩
  · simp [termsOf, pairsD, List.map_map, Function.comp_def]
  · rw [List.map_map]
    have e : ((fun p : List Nat × Int => p.1) ∘ fun x => (x, (tget t x).getD 0)) = id := rfl
    rw [e, List.map_id]
    have nd : (srtS (t.map (·.1))).Nodup := (List.mergeSort_perm _ leS).nodup_iff.mpr k1
    have p1 := srtS_pair (t.map (·.1))
    have p2 : (srtS (t.map (·.1))).Pairwise (· < ·) := by
      refine (p1.and nd).imp fun {a b} ⟨h1, h2⟩ => ?_
      rw [leS_iff] at h1
      exact lt_ne h1 h2
    exact p2.sublist List.filter_sublist
  · obtain ⟨x, hx, rfl⟩ := List.mem_map.mp hp
    obtain ⟨hx1, hx2⟩ := List.mem_filter.mp hx
    have hk : x ∈ t.map (·.1) := (List.mergeSort_perm _ leS).mem_iff.mp hx1
    obtain ⟨v, hv⟩ := tget_has hk
    have hm := tget_mem hv
    simp at hk
    obtain ⟨w, hw⟩ := hk
    obtain ⟨u, hu⟩ := k2 x w hw
    refine ⟨hs.subset (List.mem_map.mpr ⟨(x, u), hu, rfl⟩), by simpa using hx2, ?_⟩
    have := k4 x v hm
    simp [hv]
    omega
  · rw [List.length_map]
    refine Nat.le_trans (List.length_filter_le _ _) ?_
    rw [srtS_len, List.length_map]
    exact k3
theorem some_form_D {dr fo : List O → Cr} (hd : Draws dr) (hf : ∀ (ci : Int) (ps : Tab), ps.length < 64 → fo [.fz (.int ci), .fz (.lst (pairsD ps))] = .ok (.fz (.tup [.int ci, .tup (termsOf (sumUp [] ps))])) none)
    {C : Nat} {s o : O} {ns : List (List Nat)} (h : St C s) (hC : C + 1000 < 2 ^ 60) (ho : Lsts o (ns.map D.str)) (hn : ns.length < 64) :
    ∃ f s', fnOf true 2 (someFormB dr fo) [s, o] = .ok (.fz f) (some s') ∧ FormD ns f ∧ St (C + 150) s' := by
  obtain ⟨ci, ps, s', e, h1, h2, h3, h4⟩ := some_form_ok hd hf h hC ho hn
  obtain ⟨rows, g1, g2, g3, g4⟩ := terms_facts h2 h3
  have hl := h2.length_le
  simp at hl
  rw [g1] at e
  exact ⟨_, s', e, ⟨ci, rows, rfl, h1, g2, fun p hp => ⟨(g3 p hp).1, (g3 p hp).2.1, by have := (g3 p hp).2.2; omega⟩, by omega⟩, h4.mono (by omega)⟩
/-- a function that draws a form -/
def Forms (sf : List O → Cr) : Prop := ∀ (C : Nat) (s o : O) (ns : List (List Nat)), St C s → C + 1000 < 2 ^ 60 → Lsts o (ns.map D.str) → ns.length < 64 → ∃ f s', sf [s, o] = .ok (.fz f) (some s') ∧ FormD ns f ∧ St (C + 150) s'
def Ones (so : List O → Cr) : Prop := ∀ (C : Nat) (s o : O) (ds : List D), St C s → C < 2 ^ 60 → Lsts o ds → ds ≠ [] → ds.length < 1000000 → ∃ d s', so [s, o] = .ok (.fz d) (some s') ∧ d ∈ ds ∧ St (C + 1) s'
/-- [form for k in range(draw)] -/
theorem forms_ok {dr sf : List O → Cr} (hd : Draws dr) (hsf : Forms sf) {R R' : En} {q : Nat} {C : Nat} {s : O} {ns : List (List Nat)} (h : St C s) (hC : C + 2000 < 2 ^ 60) (hn : ns.length < 64)
    (hR : ∀ s v, wipeE ((some s :: R).set 8 v) [8] = some s :: R) (hR0 : ∀ s, wipeE (some s :: R) [8] = some s :: R) (hR' : ∀ s, wipeE (some s :: R') [8] = some s :: R)
    (hq : ∀ s v, mVar q ((some s :: R).set 8 v) = .ok (.fz (.lst (ns.map D.str))) ((some s :: R).set 8 v)) :
    ∃ (fs : List D) (s' : O), mComp [8] (tName 8) (iArgs rng1 (mCons (mCallS dr 0 (mCons (mLit (.int 3)) mNil)) mNil)) mYes (mCallS sf 0 (mCons (mVar q) mNil)) (some s :: R') = .ok (.lst (fs.map O.fz)) (some s' :: R) ∧ (∀ f ∈ fs, FormD ns f) ∧ fs.length ≤ 2 ∧ St (C + 400) s' := by
  obtain ⟨n, s1, a1, a2, a3, a4⟩ := hd C s h (by omega) 3 (by omega) (by omega)
  have hr : rng1 [.fz (.int n)] = some ((List.range n.toNat).map fun (i : Nat) => D.int (i : Int)) := by
    simp only [rng1]
    rw [if_pos ⟨by omega, by omega⟩]
  obtain ⟨rows, E', e1, e2, e3, s2, e4, e5⟩ := cIter_st (own := [8]) (t := tName 8) (c := mYes) (m := mCallS sf 0 (mCons (mVar q) mNil)) 2
    (fun j E => ∃ s', E = some s' :: R ∧ St (C + 1 + 150 * j) s') (fun d o => ∃ f, o = .fz f ∧ FormD ns f) (fun j E ⟨s', e, _⟩ => by subst e; exact hR0 s') ((List.range n.toNat).map fun (i : Nat) => D.int (i : Int)) [] 0 (some s1 :: R) ⟨s1, rfl, by simpa using a4⟩ (by simp; omega) (fun d hdm j E hj ⟨s', e, hs⟩ => by
      subst e
      obtain ⟨f, s3, b1, b2, b3⟩ := hsf _ s' (.fz (.lst (ns.map D.str))) ns hs (by omega) (.inl rfl) hn
      refine ⟨_, rfl, true, _, rfl, fun h => by simp at h, fun _ => ⟨.fz f, some s3 :: R.set 7 (some (.fz d)), ?_, ⟨f, rfl, b2⟩, ⟨s3, ?_, b3.mono (by omega)⟩⟩⟩
      · have := hq s' (some (.fz d))
        simp at this
        simp [this, b1]
      · have := hR s3 (some (.fz d))
        simpa using this) (by simp only [List.length_map, List.length_range, List.length_nil]; exact szt _ (by omega))
  subst e4
  have hfs : ∃ fs : List D, rows.map (·.2) = fs.map O.fz ∧ ∀ f ∈ fs, FormD ns f := by
    clear e1 e2 e5
    induction rows with
    | nil => exact ⟨[], rfl, by simp⟩
    | cons r rows ih =>
      obtain ⟨f, h1, h2⟩ := e3 r (by simp)
      obtain ⟨fs, g1, g2⟩ := ih fun p hp => e3 p (by simp [hp])
      exact ⟨f :: fs, by simp [h1, g1], fun x hx => by
        rcases List.mem_cons.mp hx with rfl | hx
        · exact h2
        · exact g2 x hx⟩
  obtain ⟨fs, f1, f2⟩ := hfs
  have hlen : fs.length ≤ 2 := by
    have h1 := e2.length_le
    have h2 : (rows.map (·.2)).length = fs.length := by rw [f1]; simp
    simp at h1 h2
    omega
  simp only [List.nil_append] at e1
  rw [f1] at e1
  refine ⟨fs, s2, ?_, f2, hlen, e5.mono (by simp; omega)⟩
  simp only [ev_comp, ev_args, ev_cons, ev_nil]
  have hc : mCallS dr 0 (mCons (mLit (.int 3)) mNil) (some s :: R') = .ok (.fz (.int n)) (some s1 :: R') := by simp [a1]
  rw [hc]
  simp only [bind_ok, hr]
  rw [show wipeE (some s1 :: R') [8] = some s1 :: R from hR' s1, e1]
  rfl
/-- tuple(sorted([a for a in names if draw])) -/
theorem subs_ok {dr : List O → Cr} (hd : Draws dr) {R : En} {q : Nat} {R2 : En} {C : Nat} {s : O} {as : List (List Nat)} (h : St C s) (hC : C + 2000 < 2 ^ 60) (hn : as.length < 64) (nd : as.Nodup)
    (hq : iVal (mVar q) (some s :: R) = .ok (as.map D.str) (some s :: R2)) (hR : ∀ s v, wipeE ((some s :: R2).set 5 v) [5] = some s :: R2) (hR0 : ∀ s, wipeE (some s :: R2) [5] = some s :: R2)
    (h5 : ∀ s d, mVar 5 ((some s :: R2).set 5 (some (.fz d))) = .ok (.fz d) ((some s :: R2).set 5 (some (.fz d)))) :
    ∃ (hs : List (List Nat)) (s' : O), mPrim pTuple (mCons (mPrim pSorted (mCons (mComp [5] (tName 5) (iVal (mVar q)) (mAsB (mPrim (g2 (qEq false)) (mCons (mCallS dr 0 (mCons (mLit (.int 2)) mNil)) (mCons (mLit (.int 0)) mNil)))) (mVar 5)) mNil)) mNil) (some s :: R) = .ok (.fz (.tup (hs.map D.str))) (some s' :: R2) ∧
      hs.Pairwise (· < ·) ∧ (∀ x ∈ hs, x ∈ as) ∧ hs.length < 64 ∧ St (C + 64) s' := by
  obtain ⟨rows, E', e1, e2, e3, s2, e4, e5⟩ := cIter_st (own := [5]) (t := tName 5) (c := mAsB (mPrim (g2 (qEq false)) (mCons (mCallS dr 0 (mCons (mLit (.int 2)) mNil)) (mCons (mLit (.int 0)) mNil)))) (m := mVar 5) as.length
    (fun j E => ∃ s', E = some s' :: R2 ∧ St (C + j) s') (fun d o => o = .fz d) (fun j E ⟨s', e, _⟩ => by subst e; exact hR0 s') (as.map D.str) [] 0 (some s :: R2) ⟨s, rfl, by simpa using h⟩ (by simp) (fun d hdm j E hj ⟨s', e, hs⟩ => by
      subst e
      obtain ⟨n1, s1, a1, a2, a3, a4⟩ := hd _ s' hs (by omega) 2 (by omega) (by omega)
      refine ⟨_, rfl, decide (n1 = 0), some s1 :: R2.set 4 (some (.fz d)), by simp [a1], fun _ => ⟨s1, by simpa using hR s1 (some (.fz d)), a4.mono (by omega)⟩, fun _ => ⟨.fz d, some s1 :: R2.set 4 (some (.fz d)), by simpa using h5 s1 d, rfl, s1, by simpa using hR s1 (some (.fz d)), a4.mono (by omega)⟩⟩) (by simp; exact szt _ (by omega))
  subst e4
  have hr : rows.map (·.2) = (rows.map (·.1)).map O.fz := by
    rw [List.map_map]
    exact List.map_congr_left fun p hp => e3 p hp
  -- the names that stay
  have hx : ∃ xs : List (List Nat), rows.map (·.1) = xs.map D.str ∧ xs.Sublist as := by
    obtain ⟨xs, hxs, hx2⟩ := List.sublist_map_iff.mp e2
    exact ⟨xs, hx2, hxs⟩
  obtain ⟨xs, x1, x2⟩ := hx
  have hl := x2.length_le
  simp only [List.nil_append] at e1
  rw [hr, x1] at e1
  have e6 : pSorted [.lst ((xs.map D.str).map O.fz)] = some (.lst ((srtS xs).map fun n => .fz (.str n))) := by
    simp only [pSorted, toD_lst, oSorted, toDs_map]
    have hs : strsOf (xs.map D.str) = some xs := by
      clear e1 x1 x2 hl
      induction xs with
      | nil => rfl
      | cons x xs ih => show (strsOf (xs.map D.str)).map (x :: ·) = _; rw [ih]; rfl
    cases xs with
    | nil => simp [intsOf, srtI, srtS]
    | cons x xs =>
      rw [show intsOf ((x :: xs).map D.str) = none from rfl, hs]
      simp only
      rw [if_pos (by omega)]
  refine ⟨srtS xs, s2, ?_, ?_, fun x hx => x2.subset (((List.mergeSort_perm xs leS).mem_iff (a := x)).mp hx), by rw [srtS_len]; omega, e5.mono (by simp; omega)⟩
  · simp only [ev_prim, ev_cons, ev_nil, ev_comp, hq, bind_ok]
    rw [hR0, e1]
    have hz : (srtS xs).length ≤ sizeLine := by rw [srtS_len]; exact szt _ (by omega)
    simp only [only_ok, bind_ok, e6]
    have e7 : pTuple [.lst ((srtS xs).map fun n => O.fz (.str n))] = some (.fz (.tup ((srtS xs).map D.str))) := by
      simp only [pTuple, toD_lst, oTuple, toDs_eq, List.map_map, Function.comp_def, toD_fz, List.length_map]
      rw [if_pos hz]
    rw [e7]
  · have ndx : (srtS xs).Nodup := (List.mergeSort_perm xs leS).nodup_iff.mpr (nd.sublist x2)
    refine ((srtS_pair xs).and ndx).imp fun {a b} ⟨h1, h2⟩ => ?_
    rw [leS_iff] at h1
    exact lt_ne h1 h2
end Mn

set_option Elab.async false
set_option linter.all false
set_option maxRecDepth 100000
set_option maxHeartbeats 4000000
namespace Mn
open PySem PySem.Spec PyProof.Rows L2
def plcs (k : Nat) : List (List Nat) := [[36, 48], [36, 49]].take k
def itms (k : Nat) : List (List Nat) := [[38, 48], [38, 49]].take k
/-- a drawn saying -/
def SayD (ns as bs : List (List Nat)) (d : D) : Prop :=
  (∃ (h1 h2 : List (List Nat)) (f1 f2 : List D), d = .tup [.str [98, 97, 103], .tup (h1.map D.str), .tup f1, .tup (h2.map D.str), .tup f2] ∧ h1.Pairwise (· < ·) ∧ (∀ x ∈ h1, x ∈ as) ∧ h2.Pairwise (· < ·) ∧ (∀ x ∈ h2, x ∈ bs) ∧ (∀ f ∈ f1, FormD ns f) ∧ (∀ f ∈ f2, FormD ns f) ∧ f1.length ≤ 2 ∧ f2.length ≤ 2 ∧ h1.length < 64 ∧ h2.length < 64) ∨
  (∃ (rs gs : List D) (f : D), d = .tup [.str [97, 108, 108], .tup rs, .tup gs, f] ∧ 1 ≤ rs.length ∧ rs.length ≤ 2 ∧ (∀ r ∈ rs, ∃ a lo hi, r = .tup [.str a, lo, hi] ∧ a ∈ as ∧ FormD ns lo ∧ FormD ns hi) ∧ (∀ g ∈ gs, FormD (ns ++ plcs rs.length) g) ∧ gs.length ≤ 2 ∧ FormD (ns ++ plcs rs.length ++ itms rs.length) f)
def sayB (dr so sf : List O → Cr) : Ms := (mSeq (mIf (mAsB (mPrim (g2 (qEq false)) (mCons (mCallS dr 0 (mCons (mLit (.int 3)) mNil)) (mCons (mLit (.int 0)) mNil))))
    (mSeq (mAsg (tName 4) (mPrim pTuple (mCons (mPrim pSorted (mCons (mComp [5] (tName 5) (iVal (mVar 2)) (mAsB (mPrim (g2 (qEq false)) (mCons (mCallS dr 0 (mCons (mLit (.int 2)) mNil)) (mCons (mLit (.int 0)) mNil)))) (mVar 5)) mNil)) mNil)))
    (mSeq (mAsg (tName 6) (mPrim pTuple (mCons (mPrim pSorted (mCons (mComp [5] (tName 5) (iVal (mVar 3)) (mAsB (mPrim (g2 (qEq false)) (mCons (mCallS dr 0 (mCons (mLit (.int 2)) mNil)) (mCons (mLit (.int 0)) mNil)))) (mVar 5)) mNil)) mNil)))
    (mSeq (mAsg (tName 7) (mPrim pTuple (mCons (mComp [8] (tName 8) (iArgs rng1 (mCons (mCallS dr 0 (mCons (mLit (.int 3)) mNil)) mNil)) mYes (mCallS sf 0 (mCons (mVar 1) mNil))) mNil)))
    (mRet (mPrim pTup (mCons (mLit (.str [98, 97, 103])) (mCons (mVar 4) (mCons (mVar 7) (mCons (mVar 6) (mCons (mPrim pTuple (mCons (mComp [8] (tName 8) (iArgs rng1 (mCons (mCallS dr 0 (mCons (mLit (.int 3)) mNil)) mNil)) mYes (mCallS sf 0 (mCons (mVar 1) mNil))) mNil)) mNil))))))))))
    mDone)
    (mSeq (mAsg (tName 9) (mPrim pLst mNil))
    (mSeq (mFor (tName 8) (iArgs rng1 (mCons (mPrim pAdd (mCons (mLit (.int 1)) (mCons (mCallS dr 0 (mCons (mLit (.int 2)) mNil)) mNil))) mNil))
    (mSeq (mAsg (tName 10) (mCallS so 0 (mCons (mVar 2) mNil)))
    (mDrop (mMeth uAppend 9 (mCons (mPrim pTup (mCons (mVar 10) (mCons (mCallS sf 0 (mCons (mVar 1) mNil)) (mCons (mCallS sf 0 (mCons (mVar 1) mNil)) mNil)))) mNil)))))
    (mSeq (mAsg (tName 11) (mPrim pAdd (mCons (mVar 1) (mCons (mSlice (mPrim pLst (mCons (mLit (.str [36, 48])) (mCons (mLit (.str [36, 49])) mNil))) mNo (mPart (mRd1 dLen 9))) mNil))))
    (mSeq (mAsg (tName 12) (mPrim pAdd (mCons (mVar 11) (mCons (mSlice (mPrim pLst (mCons (mLit (.str [38, 48])) (mCons (mLit (.str [38, 49])) mNil))) mNo (mPart (mRd1 dLen 9))) mNil))))
    (mSeq (mAsg (tName 13) (mPrim pTuple (mCons (mComp [8] (tName 8) (iArgs rng1 (mCons (mCallS dr 0 (mCons (mLit (.int 3)) mNil)) mNil)) mYes (mCallS sf 0 (mCons (mVar 11) mNil))) mNil)))
    (mRet (mPrim pTup (mCons (mLit (.str [97, 108, 108])) (mCons (mPrim pTuple (mCons (mVar 9) mNil)) (mCons (mVar 13) (mCons (mCallS sf 0 (mCons (mVar 12) mNil)) mNil))))))))))))
theorem tup_fz (fs : List D) (h : fs.length ≤ 1000) : pTuple [.lst (fs.map O.fz)] = some (.fz (.tup fs)) := by
  simp only [pTuple, toD_lst, oTuple, toDs_map]
  rw [if_pos (szt _ (by omega))]
theorem say_bag {dr so sf : List O → Cr} (hd : Draws dr) (hsf : Forms sf) {C : Nat} {s b : O} {ns as bs : List (List Nat)} (h : St C s) (hC : C + 10000 < 2 ^ 60) (hn : ns.length < 60) (ha : as.length < 64) (nda : as.Nodup) (hb : bs.length < 64) (ndb : bs.Nodup) (hbo : Lsts b (bs.map D.str)) :
    ∃ d s' E, (mSeq (mAsg (tName 4) (mPrim pTuple (mCons (mPrim pSorted (mCons (mComp [5] (tName 5) (iVal (mVar 2)) (mAsB (mPrim (g2 (qEq false)) (mCons (mCallS dr 0 (mCons (mLit (.int 2)) mNil)) (mCons (mLit (.int 0)) mNil)))) (mVar 5)) mNil)) mNil)))
    (mSeq (mAsg (tName 6) (mPrim pTuple (mCons (mPrim pSorted (mCons (mComp [5] (tName 5) (iVal (mVar 3)) (mAsB (mPrim (g2 (qEq false)) (mCons (mCallS dr 0 (mCons (mLit (.int 2)) mNil)) (mCons (mLit (.int 0)) mNil)))) (mVar 5)) mNil)) mNil)))
    (mSeq (mAsg (tName 7) (mPrim pTuple (mCons (mComp [8] (tName 8) (iArgs rng1 (mCons (mCallS dr 0 (mCons (mLit (.int 3)) mNil)) mNil)) mYes (mCallS sf 0 (mCons (mVar 1) mNil))) mNil)))
    (mRet (mPrim pTup (mCons (mLit (.str [98, 97, 103])) (mCons (mVar 4) (mCons (mVar 7) (mCons (mVar 6) (mCons (mPrim pTuple (mCons (mComp [8] (tName 8) (iArgs rng1 (mCons (mCallS dr 0 (mCons (mLit (.int 3)) mNil)) mNil)) mYes (mCallS sf 0 (mCons (mVar 1) mNil))) mNil)) mNil)))))))))) [some s, some (.fz (.lst (ns.map D.str))), some (.fz (.lst (as.map D.str))), some b, none, none, none, none, none, none, none, none, none, none] = .ret (.fz d) (some s' :: E) ∧ SayD ns as bs d ∧ St (C + 1000) s' := by
  obtain ⟨h1, s1, a1, a2, a3, a3', a4⟩ := subs_ok (q := 2) hd (R := [some (.fz (.lst (ns.map D.str))), some (.fz (.lst (as.map D.str))), some b, none, none, none, none, none, none, none, none, none, none])
    (R2 := [some (.fz (.lst (ns.map D.str))), some (.fz (.lst (as.map D.str))), some b, none, none, none, none, none, none, none, none, none, none]) h (by omega) ha nda (by simp) (fun s v => rfl) (fun s => rfl) (fun s d => by simp)
  have hvb : ∀ s1, iVal (mVar 3) [some s1, some (.fz (.lst (ns.map D.str))), some (.fz (.lst (as.map D.str))), some b, some (.fz (.tup (h1.map D.str))), none, none, none, none, none, none, none, none, none] = .ok (bs.map D.str) [some s1, some (.fz (.lst (ns.map D.str))), some (.fz (.lst (as.map D.str))), some (.fz (.lst (bs.map D.str))), some (.fz (.tup (h1.map D.str))), none, none, none, none, none, none, none, none, none] := fun s1 => by
    rcases hbo with rfl | rfl
    · simp
    · simp [toDs_eq, List.map_map, Function.comp_def]
  obtain ⟨h2, s2, b1, b2, b3, b3', b4⟩ := subs_ok (q := 3) hd (R := [some (.fz (.lst (ns.map D.str))), some (.fz (.lst (as.map D.str))), some b, some (.fz (.tup (h1.map D.str))), none, none, none, none, none, none, none, none, none])
    (R2 := [some (.fz (.lst (ns.map D.str))), some (.fz (.lst (as.map D.str))), some (.fz (.lst (bs.map D.str))), some (.fz (.tup (h1.map D.str))), none, none, none, none, none, none, none, none, none]) a4 (by omega) hb ndb (hvb s1) (fun s v => rfl) (fun s => rfl) (fun s d => by simp)
  obtain ⟨f1, s3, c1, c2, c3, c4⟩ := forms_ok (q := 1) hd hsf (R := [some (.fz (.lst (ns.map D.str))), some (.fz (.lst (as.map D.str))), some (.fz (.lst (bs.map D.str))), some (.fz (.tup (h1.map D.str))), none, some (.fz (.tup (h2.map D.str))), none, none, none, none, none, none, none]) (ns := ns) b4 (by omega) (by omega) (R' := [some (.fz (.lst (ns.map D.str))), some (.fz (.lst (as.map D.str))), some (.fz (.lst (bs.map D.str))), some (.fz (.tup (h1.map D.str))), none, some (.fz (.tup (h2.map D.str))), none, none, none, none, none, none, none]) (fun s v => rfl) (fun s => rfl) (fun s => rfl) (fun s v => by simp)
  obtain ⟨f2, s4, d1, d2, d3, d4⟩ := forms_ok (q := 1) hd hsf (R := [some (.fz (.lst (ns.map D.str))), some (.fz (.lst (as.map D.str))), some (.fz (.lst (bs.map D.str))), some (.fz (.tup (h1.map D.str))), none, some (.fz (.tup (h2.map D.str))), some (.fz (.tup f1)), none, none, none, none, none, none]) (ns := ns) c4 (by omega) (by omega) (R' := [some (.fz (.lst (ns.map D.str))), some (.fz (.lst (as.map D.str))), some (.fz (.lst (bs.map D.str))), some (.fz (.tup (h1.map D.str))), none, some (.fz (.tup (h2.map D.str))), some (.fz (.tup f1)), none, none, none, none, none, none]) (fun s v => rfl) (fun s => rfl) (fun s => rfl) (fun s v => by simp)
  have z5 : 5 ≤ sizeLine := szt _ (by omega)
  refine ⟨.tup [.str [98, 97, 103], .tup (h1.map D.str), .tup f1, .tup (h2.map D.str), .tup f2], s4, [some (.fz (.lst (ns.map D.str))), some (.fz (.lst (as.map D.str))), some (.fz (.lst (bs.map D.str))), some (.fz (.tup (h1.map D.str))), none, some (.fz (.tup (h2.map D.str))), some (.fz (.tup f1)), none, none, none, none, none, none], ?_, .inl ⟨h1, h2, f1, f2, rfl, a2, a3, b2, b3, c2, d2, c3, d3, a3', b3'⟩, d4.mono (by omega)⟩
  · rw [ev_seq, ev_asg, a1]
    simp only [fl_ok, ev_name, List.set_cons_succ, List.set_cons_zero, seq_next]
    rw [ev_seq, ev_asg, b1]
    simp only [fl_ok, ev_name, List.set_cons_succ, List.set_cons_zero, seq_next]
    rw [ev_seq, ev_asg, ev_prim, ev_cons, c1]
    simp only [bind_ok, ev_nil, tup_fz f1 (by omega), fl_ok, ev_name, List.set_cons_succ, List.set_cons_zero, seq_next]
    rw [ev_ret, ev_prim]
    simp only [ev_cons, ev_lit, bind_ok]
    rw [ev_var (d := .tup (h1.map D.str)) rfl, bind_ok, ev_var (d := .tup f1) rfl, bind_ok, ev_var (d := .tup (h2.map D.str)) rfl, bind_ok, ev_prim, ev_cons, d1]
    simp [tup_fz f2 (by omega), z5]
theorem cutTo {α : Type} (xs : List α) (k : Nat) : cutL xs none (some (k : Int)) = xs.take k := by
  unfold cutL
  rw [HT.sIx_nat, HT.sIx_none]
  simp only [List.drop_zero, Nat.sub_zero]
  by_cases h : k ≤ xs.length
  · rw [Nat.min_eq_left h]
  · rw [Nat.min_eq_right (by omega), List.take_of_length_le (by omega), List.take_of_length_le (by omega)]
theorem addL {a b : O} {s t : List D} (ha : a.toD = .lst s) (hb : b.toD = .lst t) (hl : s.length + t.length ≤ 1000000) : pAdd [a, b] = some (.lst ((s ++ t).map O.fz)) := by
  have h1 : pAddI [a, b] = none := by simp [pAddI, toDs_cons, toDs_nil, ha, hb, dII]
  have h2 : catS [a, b] = none := by
    unfold catS
    split
    · rename_i e; simp only [List.cons.injEq, and_true] at e; rw [e.1, toD_fz] at ha; cases ha
    · rfl
  have h3 : catT [a, b] = none := by
    unfold catT
    split
    · rename_i e; simp only [List.cons.injEq, and_true] at e; rw [e.1, toD_fz] at ha; cases ha
    · rfl
  simp only [pAdd, orO, h1, h2, h3, catL, ha, hb, if_pos (szt _ hl)]
def RngD (ns as : List (List Nat)) (r : D) : Prop := ∃ a lo hi, r = .tup [.str a, lo, hi] ∧ a ∈ as ∧ FormD ns lo ∧ FormD ns hi
def rngBody (so sf : List O → Cr) : Ms := (mSeq (mAsg (tName 10) (mCallS so 0 (mCons (mVar 2) mNil)))
    (mDrop (mMeth uAppend 9 (mCons (mPrim pTup (mCons (mVar 10) (mCons (mCallS sf 0 (mCons (mVar 1) mNil)) (mCons (mCallS sf 0 (mCons (mVar 1) mNil)) mNil)))) mNil))))
theorem rng_turn {so sf : List O → Cr} (hso : Ones so) (hsf : Forms sf) {C : Nat} {s : O} {ns as : List (List Nat)} {b x8 x10 : Option O} {rs : List D} (h : St C s) (hC : C + 2000 < 2 ^ 60) (hn : ns.length < 60) (ha : as.length < 64) (ha0 : as ≠ []) (hrs : rs.length ≤ 1000) :
    ∃ r s' x, rngBody so sf [some s, some (.fz (.lst (ns.map D.str))), some (.fz (.lst (as.map D.str))), b, none, none, none, none, x8, some (.lst (rs.map O.fz)), x10, none, none, none] = .next [some s', some (.fz (.lst (ns.map D.str))), some (.fz (.lst (as.map D.str))), b, none, none, none, none, x8, some (.lst ((rs ++ [r]).map O.fz)), some x, none, none, none] ∧ RngD ns as r ∧ St (C + 310) s' := by
  obtain ⟨d, s1, a1, a2, a3⟩ := hso C s (.fz (.lst (as.map D.str))) (as.map D.str) h (by omega) (.inl rfl) (by simpa using ha0) (by simp; omega)
  obtain ⟨a, ha2, rfl⟩ := List.mem_map.mp a2
  obtain ⟨lo, s2, b1, b2, b3⟩ := hsf _ s1 (.fz (.lst (ns.map D.str))) ns a3 (by omega) (.inl rfl) (by omega)
  obtain ⟨hi, s3, c1, c2, c3⟩ := hsf _ s2 (.fz (.lst (ns.map D.str))) ns b3 (by omega) (.inl rfl) (by omega)
  have z3 : 3 ≤ sizeLine := szt _ (by omega)
  have zr : rs.length < sizeLine := szu _ (by omega)
  refine ⟨.tup [.str a, lo, hi], s3, .fz (.str a), ?_, ⟨a, lo, hi, rfl, ha2, b2, c2⟩, c3.mono (by omega)⟩
  simp [rngBody, a1, b1, c1, z3, uAppend, zr]
theorem say_all {dr so sf : List O → Cr} (hd : Draws dr) (hso : Ones so) (hsf : Forms sf) {C : Nat} {s : O} {b : Option O} {ns as : List (List Nat)} (bs : List (List Nat)) (h : St C s) (hC : C + 10000 < 2 ^ 60) (hn : ns.length < 50) (ha : as.length < 64) (ha0 : as ≠ []) :
    ∃ d s' E, (mSeq (mAsg (tName 9) (mPrim pLst mNil))
    (mSeq (mFor (tName 8) (iArgs rng1 (mCons (mPrim pAdd (mCons (mLit (.int 1)) (mCons (mCallS dr 0 (mCons (mLit (.int 2)) mNil)) mNil))) mNil))
    (rngBody so sf))
    (mSeq (mAsg (tName 11) (mPrim pAdd (mCons (mVar 1) (mCons (mSlice (mPrim pLst (mCons (mLit (.str [36, 48])) (mCons (mLit (.str [36, 49])) mNil))) mNo (mPart (mRd1 dLen 9))) mNil))))
    (mSeq (mAsg (tName 12) (mPrim pAdd (mCons (mVar 11) (mCons (mSlice (mPrim pLst (mCons (mLit (.str [38, 48])) (mCons (mLit (.str [38, 49])) mNil))) mNo (mPart (mRd1 dLen 9))) mNil))))
    (mSeq (mAsg (tName 13) (mPrim pTuple (mCons (mComp [8] (tName 8) (iArgs rng1 (mCons (mCallS dr 0 (mCons (mLit (.int 3)) mNil)) mNil)) mYes (mCallS sf 0 (mCons (mVar 11) mNil))) mNil)))
    (mRet (mPrim pTup (mCons (mLit (.str [97, 108, 108])) (mCons (mPrim pTuple (mCons (mVar 9) mNil)) (mCons (mVar 13) (mCons (mCallS sf 0 (mCons (mVar 12) mNil)) mNil)))))))))))
    [some s, some (.fz (.lst (ns.map D.str))), some (.fz (.lst (as.map D.str))), b, none, none, none, none, none, none, none, none, none, none] = .ret (.fz d) (some s' :: E) ∧ SayD ns as bs d ∧ St (C + 2000) s' := by
  obtain ⟨n, s1, a1, a2, a3, a4⟩ := hd C s h (by omega) 2 (by omega) (by omega)
  have z0 : 0 ≤ sizeLine := Nat.zero_le _
  have hr : rng1 [.fz (.int (1 + n))] = some ((List.range (1 + n).toNat).map fun (i : Nat) => D.int (i : Int)) := by
    simp only [rng1]
    rw [if_pos ⟨by omega, by omega⟩]
  obtain ⟨E', e1, s2, rs, x8, x10, rfl, r1, r2, r3⟩ := fIter_inv (t := tName 8) (b := rngBody so sf) 2 (fun j E => ∃ s' rs x8 x10, E = [some s', some (.fz (.lst (ns.map D.str))), some (.fz (.lst (as.map D.str))), b, none, none, none, none, x8, some (.lst ((rs : List D).map O.fz)), x10, none, none, none] ∧ rs.length = j ∧ (∀ r ∈ rs, RngD ns as r) ∧ St (C + 2 + 310 * j) s')
    ((List.range (1 + n).toNat).map fun (i : Nat) => D.int (i : Int)) 0 [some s1, some (.fz (.lst (ns.map D.str))), some (.fz (.lst (as.map D.str))), b, none, none, none, none, none, some (.lst []), none, none, none, none]
    ⟨s1, [], none, none, rfl, rfl, by simp, a4.mono (by omega)⟩ (by simp only [List.length_map, List.length_range]; omega) (fun d hdm j E hj ⟨s', rs, x8, x10, e, q1, q2, q3⟩ => by
      subst e
      obtain ⟨r, s3, x, t1, t2, t3⟩ := rng_turn (ns := ns) (as := as) hso hsf (b := b) (x8 := some (.fz d)) (x10 := x10) (rs := rs) q3 (by omega) (by omega) ha ha0 (by omega)
      exact ⟨_, rfl, _, t1, s3, rs ++ [r], some (.fz d), some x, rfl, by simp [q1], fun y hy => by
        rcases List.mem_append.mp hy with hy | hy
        · exact q2 y hy
        · simp at hy; subst hy; exact t2, t3.mono (by omega)⟩)
  simp only [List.length_map, List.length_range] at r1 r3
  have l1 : 1 ≤ rs.length := by omega
  have l2 : rs.length ≤ 2 := by omega
  have p1 : pAdd [.fz (.lst (ns.map D.str)), .lst ((plcs rs.length).map fun x => .fz (.str x))] = some (.lst (((ns ++ plcs rs.length).map D.str).map O.fz)) := by
    have hp : (plcs rs.length).length ≤ 2 := by simp [plcs]; omega
    rw [addL (s := ns.map D.str) (t := (plcs rs.length).map D.str) (by simp) (by simp [toDs_eq, List.map_map, Function.comp_def]) (by simp; omega)]
    simp
  have p2 : pAdd [.fz (.lst ((ns ++ plcs rs.length).map D.str)), .lst ((itms rs.length).map fun x => .fz (.str x))] = some (.lst (((ns ++ plcs rs.length ++ itms rs.length).map D.str).map O.fz)) := by
    have hp : (plcs rs.length).length ≤ 2 := by simp [plcs]; omega
    have hp2 : (itms rs.length).length ≤ 2 := by simp [itms]; omega
    rw [addL (s := (ns ++ plcs rs.length).map D.str) (t := (itms rs.length).map D.str) (by simp) (by simp [toDs_eq, List.map_map, Function.comp_def]) (by simp; omega)]
    simp
  have c1 : cutO none (some (rs.length : Int)) (.lst [.str [36, 48], .str [36, 49]]) = some (.lst ((plcs rs.length).map fun x => .fz (.str x))) := by
    simp only [cutO, cutTo]
    have : rs.length = 1 ∨ rs.length = 2 := by omega
    rcases this with e | e <;> rw [e] <;> rfl
  have c2 : cutO none (some (rs.length : Int)) (.lst [.str [38, 48], .str [38, 49]]) = some (.lst ((itms rs.length).map fun x => .fz (.str x))) := by
    simp only [cutO, cutTo]
    have : rs.length = 1 ∨ rs.length = 2 := by omega
    rcases this with e | e <;> rw [e] <;> rfl
  have hpl : (ns ++ plcs rs.length).length < 60 := by simp [plcs]; omega
  have hpi : (ns ++ plcs rs.length ++ itms rs.length).length < 64 := by simp [plcs, itms]; omega
  obtain ⟨gs, s3, d1, d2, d3, d4⟩ := forms_ok (q := 11) hd hsf (R := [some (.fz (.lst (ns.map D.str))), some (.fz (.lst (as.map D.str))), b, none, none, none, none, none, some (.lst (rs.map O.fz)), x10, some (.fz (.lst ((ns ++ plcs rs.length).map D.str))), some (.lst (((ns ++ plcs rs.length ++ itms rs.length).map D.str).map O.fz)), none]) (ns := ns ++ plcs rs.length) (s := s2) (C := C + 1000) (R' := [some (.fz (.lst (ns.map D.str))), some (.fz (.lst (as.map D.str))), b, none, none, none, none, x8, some (.lst (rs.map O.fz)), x10, some (.fz (.lst ((ns ++ plcs rs.length).map D.str))), some (.lst (((ns ++ plcs rs.length ++ itms rs.length).map D.str).map O.fz)), none]) (r3.mono (by omega)) (by omega) (by omega) (fun s v => rfl) (fun s => rfl) (fun s => rfl) (fun s v => by simp)
  obtain ⟨f, s4, g1, g2, g3⟩ := hsf _ s3 (.fz (.lst ((ns ++ plcs rs.length ++ itms rs.length).map D.str))) (ns ++ plcs rs.length ++ itms rs.length) d4 (by omega) (.inl rfl) hpi
  have z2 : 2 ≤ sizeLine := szt _ (by omega)
  have z4 : 4 ≤ sizeLine := szt _ (by omega)
  have iq : ∀ i : Int, (O.fz (.int i)).int? = some i := fun _ => rfl
  refine ⟨.tup [.str [97, 108, 108], .tup rs, .tup gs, f], s4, [some (.fz (.lst (ns.map D.str))), some (.fz (.lst (as.map D.str))), b, none, none, none, none, none, some (.fz (.lst rs)), x10, some (.fz (.lst ((ns ++ plcs rs.length).map D.str))), some (.fz (.lst ((ns ++ plcs rs.length ++ itms rs.length).map D.str))), some (.fz (.tup gs))], ?_, .inr ⟨rs, gs, f, rfl, l1, l2, r2, d2, d3, g2⟩, g3.mono (by omega)⟩
  have hw : ∀ s x, (wipeE [some s, some (.fz (.lst (ns.map D.str))), some (.fz (.lst (as.map D.str))), b, none, none, none, none, x8, some (.lst (rs.map O.fz)), x10, some (.fz (.lst ((ns ++ plcs rs.length).map D.str))), x, none] [8]) = [some s, some (.fz (.lst (ns.map D.str))), some (.fz (.lst (as.map D.str))), b, none, none, none, none, none, some (.lst (rs.map O.fz)), x10, some (.fz (.lst ((ns ++ plcs rs.length).map D.str))), x, none] := fun s x => rfl
  rw [ev_seq, ev_asg]
  simp only [ev_prim, ev_nil, bind_ok, v_lst, List.length_nil, if_pos z0, fl_ok, ev_name, List.set_cons_succ, List.set_cons_zero, seq_next]
  rw [ev_seq, ev_for]
  have hit : iArgs rng1 (mCons (mPrim pAdd (mCons (mLit (.int 1)) (mCons (mCallS dr 0 (mCons (mLit (.int 2)) mNil)) mNil))) mNil) [some s, some (.fz (.lst (ns.map D.str))), some (.fz (.lst (as.map D.str))), b, none, none, none, none, none, some (.lst []), none, none, none, none] = .ok ((List.range (1 + n).toNat).map fun (i : Nat) => D.int (i : Int)) [some s1, some (.fz (.lst (ns.map D.str))), some (.fz (.lst (as.map D.str))), b, none, none, none, none, none, some (.lst []), none, none, none, none] := by
    simp [a1, hr]
  rw [hit, fl_ok, e1, seq_next]
  have st1 : mPrim pAdd (mCons (mVar 1) (mCons (mSlice (mPrim pLst (mCons (mLit (.str [36, 48])) (mCons (mLit (.str [36, 49])) mNil))) mNo (mPart (mRd1 dLen 9))) mNil)) [some s2, some (.fz (.lst (ns.map D.str))), some (.fz (.lst (as.map D.str))), b, none, none, none, none, x8, some (.lst (rs.map O.fz)), x10, none, none, none]
      = .ok (.lst (((ns ++ plcs rs.length).map D.str).map O.fz)) [some s2, some (.fz (.lst (ns.map D.str))), some (.fz (.lst (as.map D.str))), b, none, none, none, none, x8, some (.lst (rs.map O.fz)), x10, none, none, none] := by
    rw [ev_prim, ev_cons, ev_var (d := .lst (ns.map D.str)) rfl, bind_ok, ev_cons, ev_slice]
    simp [z2, toDs_map, iq, c1]
    rw [p1]
    simp
  rw [ev_seq, ev_asg, st1]
  simp only [fl_ok, ev_name, List.set_cons_succ, List.set_cons_zero, seq_next]
  have st2 : mPrim pAdd (mCons (mVar 11) (mCons (mSlice (mPrim pLst (mCons (mLit (.str [38, 48])) (mCons (mLit (.str [38, 49])) mNil))) mNo (mPart (mRd1 dLen 9))) mNil)) [some s2, some (.fz (.lst (ns.map D.str))), some (.fz (.lst (as.map D.str))), b, none, none, none, none, x8, some (.lst (rs.map O.fz)), x10, some (.lst (((ns ++ plcs rs.length).map D.str).map O.fz)), none, none]
      = .ok (.lst (((ns ++ plcs rs.length ++ itms rs.length).map D.str).map O.fz)) [some s2, some (.fz (.lst (ns.map D.str))), some (.fz (.lst (as.map D.str))), b, none, none, none, none, x8, some (.lst (rs.map O.fz)), x10, some (.fz (.lst ((ns ++ plcs rs.length).map D.str))), none, none] := by
    rw [ev_prim, ev_cons, ev_varL rfl, bind_ok, ev_cons, ev_slice, toDs_map]
    simp [z2, toDs_map, iq, c2]
    rw [List.map_append] at p2
    rw [p2]
    simp
  rw [ev_seq, ev_asg, st2]
  simp only [fl_ok, ev_name, List.set_cons_succ, List.set_cons_zero, seq_next]
  rw [ev_seq, ev_asg, ev_prim, ev_cons, d1]
  simp only [bind_ok, ev_nil, tup_fz gs (by omega), fl_ok, ev_name, List.set_cons_succ, List.set_cons_zero, seq_next]
  rw [ev_ret, ev_prim, ev_cons, ev_lit, bind_ok, ev_cons, ev_prim, ev_cons, ev_varL rfl, bind_ok, ev_nil, bind_ok, toDs_map]
  have t1 : pTuple [.fz (.lst rs)] = some (.fz (.tup rs)) := by
    simp only [pTuple, toD_fz, oTuple]
    rw [if_pos (szt _ (by omega))]
  simp only [bind_ok, t1, List.set_cons_succ, List.set_cons_zero]
  rw [ev_cons, ev_var (d := .tup gs) rfl, bind_ok, ev_cons, ev_callS _ _ rfl, ev_cons, ev_varL rfl, bind_ok, ev_nil, bind_ok, toDs_map]
  simp only [bind_ok, List.set_cons_succ, List.set_cons_zero, List.getElem?_cons_zero, g1, ev_nil, v_tup, List.length_cons, List.length_nil, toDs_cons, toDs_nil, toD_fz]
  rw [if_pos (szt _ (by omega))]
  rfl
theorem say_ok {dr so sf : List O → Cr} (hd : Draws dr) (hso : Ones so) (hsf : Forms sf) {C : Nat} {s b : O} {ns as bs : List (List Nat)} (h : St C s) (hC : C + 20000 < 2 ^ 60) (hn : ns.length < 50) (ha : as.length < 64) (ha0 : as ≠ []) (nda : as.Nodup) (hb : bs.length < 64) (ndb : bs.Nodup) (hbo : Lsts b (bs.map D.str)) :
    ∃ d s', fnOf true 10 (sayB dr so sf) [s, .fz (.lst (ns.map D.str)), .fz (.lst (as.map D.str)), b] = .ok (.fz d) (some s') ∧ SayD ns as bs d ∧ St (C + 3000) s' := by
  obtain ⟨n, s1, a1, a2, a3, a4⟩ := hd C s h (by omega) 3 (by omega) (by omega)
  by_cases h0 : n = 0
  · obtain ⟨d, s2, E, e1, e2, e3⟩ := say_bag (so := so) hd hsf (as := as) (b := b) (bs := bs) (ns := ns) a4 (by omega) (by omega) ha nda hb ndb hbo
    refine ⟨d, s2, ?_, e2, e3.mono (by omega)⟩
    unfold fnOf sayB
    rw [ev_seq, ev_if, ev_asB, ev_prim, ev_cons, ev_callS _ _ rfl]
    simp only [List.map_cons, List.map_nil, List.replicate, List.cons_append, List.nil_append, ev_cons, ev_lit, ev_nil, bind_ok, List.getElem?_cons_zero, a1, List.set_cons_zero, v_g2, d_eqI, Option.map_some, fl_ok]
    rw [decide_eq_true h0]
    simp only [if_true]
    rw [e1]
    rfl
  · obtain ⟨d, s2, E, e1, e2, e3⟩ := say_all hd hso hsf (as := as) (b := some b) (ns := ns) bs a4 (by omega) hn ha ha0
    refine ⟨d, s2, ?_, e2, e3.mono (by omega)⟩
    unfold fnOf sayB
    rw [ev_seq, ev_if, ev_asB, ev_prim, ev_cons, ev_callS _ _ rfl]
    simp only [List.map_cons, List.map_nil, List.replicate, List.cons_append, List.nil_append, ev_cons, ev_lit, ev_nil, bind_ok, List.getElem?_cons_zero, a1, List.set_cons_zero, v_g2, d_eqI, Option.map_some, fl_ok]
    rw [decide_eq_false h0]
    simp only [Bool.false_eq_true, if_false, ev_done, seq_next]
    unfold rngBody at e1
    rw [e1]
    rfl
end Mn

set_option Elab.async false
set_option linter.all false
set_option maxRecDepth 100000
set_option maxHeartbeats 0
namespace K33
open PySem PySem.Spec PyProof.Rows L2 Mn
def top (i : Nat) : Stmt := PySem.Challenge.pw_allitems_k33_integers_and_data.main.body.getD i (.Pass ⟨0, 0, 0, 0⟩)
/-- write_integer -/
def N0 : List Str := ["n", "chunks", "low"]
noncomputable def B0 (G : Nat → List O → Cr) : Ms :=
    (mSeq (mIf (mAsB (mPrim pLt (mCons (mVar 0) (mCons (mLit (.int 0)) mNil))))
    (mRet (mPrim pAdd (mCons (mLit (.str [45])) (mCons (mCall (G 0) (mCons (mPrim pNeg (mCons (mVar 0) mNil)) mNil)) mNil))))
    mDone)
    (mSeq (mAsg (tName 1) (mPrim pLst mNil))
    (mSeq (mWhile (mAsB (mPrim pGe (mCons (mVar 0) (mCons (mLit (.int (10000000000000000000000000000000000000000000000000000000000000000))) mNil))))
    (mSeq (mAsg (tTup [(tName 0), (tName 2)]) (mPrim pDivmod (mCons (mVar 0) (mCons (mLit (.int (10000000000000000000000000000000000000000000000000000000000000000))) mNil))))
    (mDrop (mMeth uAppend 1 (mCons (mStrM tZfill (mPrim (g1 dOfStr) (mCons (mVar 2) mNil)) (mCons (mLit (.int 64)) mNil)) mNil)))))
    (mSeq (mDrop (mMeth uAppend 1 (mCons (mPrim (g1 dOfStr) (mCons (mVar 0) mNil)) mNil)))
    (mRet (mStrM tJoin (mLit (.str [])) (mCons (mRev (mVar 1)) mNil)))))))
/-- read_integer -/
def N1 : List Str := ["text", "digits", "char", "head", "n", "start"]
def B1 (G : Nat → List O → Cr) : Ms :=
    (mSeq (mAsg (tName 1) (mVar 0))
    (mSeq (mIf (mAsB (mPrim (g2 (qEq false)) (mCons (mSlice (mVar 0) mNo (mPart (mLit (.int 1)))) (mCons (mLit (.str [45])) mNil))))
    (mAsg (tName 1) (mSlice (mVar 0) (mPart (mLit (.int 1))) mNo))
    mDone)
    (mSeq (mIf (mOr (mAsB (mPrim (g2 (qEq false)) (mCons (mVar 1) (mCons (mLit (.str [])) mNil)))) (mAnd (mAsB (mPrim (g2 (qEq false)) (mCons (mIdx 1 (mLit (.int 0))) (mCons (mLit (.str [48])) mNil)))) (mAsB (mPrim (g2 (qEq true)) (mCons (mVar 0) (mCons (mLit (.str [48])) mNil))))))
    (mRaise 1000)
    mDone)
    (mSeq (mFor (tName 2) (iVal (mVar 1))
    (mIf (mAsB (mPrim (g2 (qIn true)) (mCons (mVar 2) (mCons (mLit (.str [48, 49, 50, 51, 52, 53, 54, 55, 56, 57])) mNil))))
    (mRaise 1000)
    mDone))
    (mSeq (mAsg (tName 3) (mPrim pMod (mCons (mRd1 dLen 1) (mCons (mLit (.int 64)) mNil))))
    (mSeq (mAsg (tName 4) (mLit (.int 0)))
    (mSeq (mIf (mAsB (mPrim pGt (mCons (mVar 3) (mCons (mLit (.int 0)) mNil))))
    (mAsg (tName 4) (mPrim (g1 dOfInt) (mCons (mSlice (mVar 1) mNo (mPart (mVar 3))) mNil)))
    mDone)
    (mSeq (mFor (tName 5) (iArgs rng3 (mCons (mVar 3) (mCons (mRd1 dLen 1) (mCons (mLit (.int 64)) mNil))))
    (mAsg (tName 4) (mPrim pAdd (mCons (mPrim pMulI (mCons (mVar 4) (mCons (mLit (.int (10000000000000000000000000000000000000000000000000000000000000000))) mNil))) (mCons (mPrim (g1 dOfInt) (mCons (mSlice (mVar 1) (mPart (mVar 5)) (mPart (mPrim pAdd (mCons (mVar 5) (mCons (mLit (.int 64)) mNil))))) mNil)) mNil)))))
    (mSeq (mIf (mAsB (mPrim (g2 (qEq false)) (mCons (mIdx 0 (mLit (.int 0))) (mCons (mLit (.str [45])) mNil))))
    (mRet (mPrim pNeg (mCons (mVar 4) mNil)))
    mDone)
    (mRet (mVar 4)))))))))))
/-- write_data -/
def N2 : List Str := ["datum", "item"]
def B2 (G : Nat → List O → Cr) : Ms :=
    (mSeq (mIf (mTru (mIsi "tuple" (mVar 0)))
    (mRet (mPrim pAdd (mCons (mPrim pAdd (mCons (mLit (.str [40])) (mCons (mStrM tJoin (mLit (.str [44, 32])) (mCons (mComp [1] (tName 1) (iVal (mVar 0)) mYes (mCall (G 2) (mCons (mVar 1) mNil))) mNil)) mNil))) (mCons (mLit (.str [41])) mNil))))
    mDone)
    (mSeq (mIf (mTru (mIsi "str" (mVar 0)))
    (mRet (mPrim pAdd (mCons (mPrim pAdd (mCons (mLit (.str [39])) (mCons (mVar 0) mNil))) (mCons (mLit (.str [39])) mNil))))
    mDone)
    (mRet (mCall (G 0) (mCons (mVar 0) mNil)))))
/-- plain_text -/
def N3 : List Str := ["text", "char"]
def B3 (G : Nat → List O → Cr) : Ms :=
    (mSeq (mFor (tName 1) (iVal (mVar 0))
    (mIf (mOr (mAsB (mPrim pLt (mCons (mVar 1) (mCons (mLit (.str [32])) mNil)))) (mOr (mAsB (mPrim pGt (mCons (mVar 1) (mCons (mLit (.str [126])) mNil)))) (mOr (mAsB (mPrim (g2 (qEq false)) (mCons (mVar 1) (mCons (mLit (.str [39])) mNil)))) (mAsB (mPrim (g2 (qEq false)) (mCons (mPrim (g1 dOrdC) (mCons (mVar 1) mNil)) (mCons (mLit (.int 37)) mNil)))))))
    (mRet (mLit (.bl false)))
    mDone))
    (mRet (mLit (.bl true))))
/-- read_plain -/
def N4 : List Str := ["text", "start", "end"]
noncomputable def B4 (G : Nat → List O → Cr) : Ms :=
    (mSeq (mIf (mAsB (mPrim (g2 (qEq false)) (mCons (mIdx 0 (mVar 1)) (mCons (mLit (.str [39])) mNil))))
    (mSeq (mAsg (tName 2) (mStrM tFind3 (mVar 0) (mCons (mLit (.str [39])) (mCons (mPrim pAdd (mCons (mVar 1) (mCons (mLit (.int 1)) mNil))) mNil))))
    (mSeq (mIf (mOr (mAsB (mPrim pLt (mCons (mVar 2) (mCons (mLit (.int 0)) mNil)))) (mNot (mTru (mCall (G 3) (mCons (mSlice (mVar 0) (mPart (mPrim pAdd (mCons (mVar 1) (mCons (mLit (.int 1)) mNil)))) (mPart (mVar 2))) mNil)))))
    (mRaise 1000)
    mDone)
    (mRet (mPrim pTup (mCons (mSlice (mVar 0) (mPart (mPrim pAdd (mCons (mVar 1) (mCons (mLit (.int 1)) mNil)))) (mPart (mVar 2))) (mCons (mPrim pAdd (mCons (mVar 2) (mCons (mLit (.int 1)) mNil))) mNil))))))
    mDone)
    (mSeq (mAsg (tName 2) (mVar 1))
    (mSeq (mWhile (mAnd (mAsB (mPrim pLt (mCons (mVar 2) (mCons (mRd1 dLen 0) mNil)))) (mAsB (mPrim (g2 (qIn false)) (mCons (mIdx 0 (mVar 2)) (mCons (mLit (.str [45, 48, 49, 50, 51, 52, 53, 54, 55, 56, 57])) mNil)))))
    (mAug (fun i j => i + j) 2 (mLit (.int 1))))
    (mRet (mPrim pTup (mCons (mCall (G 1) (mCons (mSlice (mVar 0) (mPart (mVar 1)) (mPart (mVar 2))) mNil)) (mCons (mVar 2) mNil)))))))
/-- read_data -/
def N5 : List Str := ["text", "stack", "index", "fresh", "done", "item"]
noncomputable def B5 (G : Nat → List O → Cr) : Ms :=
    (mSeq (mAsg (tName 1) (mPrim pLst (mCons (mPrim pLst mNil) mNil)))
    (mSeq (mAsg (tName 2) (mLit (.int 0)))
    (mSeq (mAsg (tName 3) (mLit (.bl true)))
    (mSeq (mWhile (mAsB (mPrim pLt (mCons (mVar 2) (mCons (mRd1 dLen 0) mNil))))
    (mIf (mAnd (mTruB 3) (mAnd (mAsB (mPrim (g2 (qEq false)) (mCons (mIdx 0 (mVar 2)) (mCons (mLit (.str [40])) mNil)))) (mAsB (mPrim pLe (mCons (mRd1 dLen 1) (mCons (mLit (.int (200))) mNil))))))
    (mSeq (mDrop (mMeth uAppend 1 (mCons (mPrim pLst mNil) mNil)))
    (mAug (fun i j => i + j) 2 (mLit (.int 1))))
    (mIf (mAnd (mAsB (mPrim (g2 (qEq false)) (mCons (mIdx 0 (mVar 2)) (mCons (mLit (.str [41])) mNil)))) (mAnd (mAsB (mPrim pGt (mCons (mRd1 dLen 1) (mCons (mLit (.int 1)) mNil)))) (mOr (mNot (mTruB 3)) (mAsB (mPrim (g2 (qEq false)) (mCons (mIdx 0 (mPrim pSub (mCons (mVar 2) (mCons (mLit (.int 1)) mNil)))) (mCons (mLit (.str [40])) mNil)))))))
    (mSeq (mAsg (tName 4) (mPrim pTuple (mCons (mMeth uPop 1 mNil) mNil)))
    (mSeq (mDrop (mMethAt uAppend 1 (mPrim pNeg (mCons (mLit (.int 1)) mNil)) (mCons (mVar 4) mNil)))
    (mSeq (mAug (fun i j => i + j) 2 (mLit (.int 1)))
    (mAsg (tName 3) (mLit (.bl false))))))
    (mIf (mAnd (mNot (mTruB 3)) (mAnd (mAsB (mPrim pGt (mCons (mRd1 dLen 1) (mCons (mLit (.int 1)) mNil)))) (mAsB (mPrim (g2 (qEq false)) (mCons (mSlice (mVar 0) (mPart (mVar 2)) (mPart (mPrim pAdd (mCons (mVar 2) (mCons (mLit (.int 2)) mNil))))) (mCons (mLit (.str [44, 32])) mNil))))))
    (mSeq (mAug (fun i j => i + j) 2 (mLit (.int 2)))
    (mAsg (tName 3) (mLit (.bl true))))
    (mIf (mAnd (mTruB 3) (mAsB (mPrim (g2 (qEq true)) (mCons (mIdx 0 (mVar 2)) (mCons (mLit (.str [40])) mNil)))))
    (mSeq (mAsg (tTup [(tName 5), (tName 2)]) (mCall (G 4) (mCons (mVar 0) (mCons (mVar 2) mNil))))
    (mSeq (mDrop (mMethAt uAppend 1 (mPrim pNeg (mCons (mLit (.int 1)) mNil)) (mCons (mVar 5) mNil)))
    (mAsg (tName 3) (mLit (.bl false)))))
    (mRaise 1000))))))
    (mSeq (mIf (mOr (mAsB (mPrim (g2 (qEq true)) (mCons (mRd1 dLen 1) (mCons (mLit (.int 1)) mNil)))) (mAsB (mPrim (g2 (qEq true)) (mCons (mPrim (g1 dLen) (mCons (mIdx 1 (mLit (.int 0))) mNil)) (mCons (mLit (.int 1)) mNil)))))
    (mRaise 1000)
    mDone)
    (mRet (mPrim pItem (mCons (mIdx 1 (mLit (.int 0))) (mCons (mLit (.int 0)) mNil)))))))))
/-- _law_start -/
def N6 : List Str := ["script"]
def B6 (G : Nat → List O → Cr) : Ms :=
    (mRet (mPrim pLst (mCons (mPrim pListF (mCons (mVar 0) mNil)) (mCons (mLit (.int 0)) (mCons (mLit (.int 0)) (mCons (mLit (.int 0)) mNil))))))
/-- _law_draw -/
def N7 : List Str := ["state", "most", "found", "cell", "mixed"]
def B7 (G : Nat → List O → Cr) : Ms :=
    (mSeq (mAsg (tSub 0 (mLit (.int 3))) (mPrim pAdd (mCons (mIdx 0 (mLit (.int 3))) (mCons (mLit (.int 1)) mNil))))
    (mSeq (mIf (mAsB (mPrim pGt (mCons (mIdx 0 (mLit (.int 2))) (mCons (mLit (.int 0)) mNil))))
    (mSeq (mAsg (tName 2) (mPrim pMod (mCons (mPrim (g1 dOfInt) (mCons (mIdx 0 (mLit (.int 2))) mNil)) (mCons (mVar 1) mNil))))
    (mSeq (mAsg (tSub 0 (mLit (.int 2))) (mPrim pDiv (mCons (mIdx 0 (mLit (.int 2))) (mCons (mVar 1) mNil))))
    (mRet (mVar 2))))
    mDone)
    (mSeq (mAsg (tName 3) (mLit (.int 0)))
    (mSeq (mIf (mAsB (mPrim pGt (mCons (mPrim (g1 dLen) (mCons (mIdx 0 (mLit (.int 0))) mNil)) (mCons (mLit (.int 0)) mNil))))
    (mAsg (tName 3) (mPrim (g1 dAbs) (mCons (mPrim pItem (mCons (mIdx 0 (mLit (.int 0))) (mCons (mPrim pMod (mCons (mPrim (g1 dOfInt) (mCons (mIdx 0 (mLit (.int 1))) mNil)) (mCons (mPrim (g1 dLen) (mCons (mIdx 0 (mLit (.int 0))) mNil)) mNil))) mNil))) mNil)))
    mDone)
    (mSeq (mAsg (tSub 0 (mLit (.int 1))) (mPrim pAdd (mCons (mIdx 0 (mLit (.int 1))) (mCons (mLit (.int 1)) mNil))))
    (mSeq (mIf (mAsB (mPrim pGe (mCons (mVar 3) (mCons (mPrim pPow (mCons (mLit (.int 10)) (mCons (mLit (.int 18)) mNil))) mNil))))
    (mSeq (mAsg (tSub 0 (mLit (.int 2))) (mPrim pDiv (mCons (mVar 3) (mCons (mVar 1) mNil))))
    (mRet (mPrim pMod (mCons (mPrim (g1 dOfInt) (mCons (mVar 3) mNil)) (mCons (mVar 1) mNil)))))
    mDone)
    (mSeq (mAsg (tName 4) (mPrim pMod (mCons (mPrim (g1 dOfInt) (mCons (mPrim pAdd (mCons (mPrim pMulI (mCons (mPrim pAdd (mCons (mVar 3) (mCons (mLit (.int 1)) mNil))) (mCons (mLit (.int 48271)) mNil))) (mCons (mPrim pMulI (mCons (mIdx 0 (mLit (.int 3))) (mCons (mLit (.int 69621)) mNil))) mNil))) mNil)) (mCons (mLit (.int 2147483647)) mNil))))
    (mSeq (mAsg (tName 4) (mPrim pMod (mCons (mPrim (g1 dOfInt) (mCons (mPrim pAdd (mCons (mPrim pAdd (mCons (mPrim pMulI (mCons (mVar 4) (mCons (mLit (.int 16807)) mNil))) (mCons (mPrim pDiv (mCons (mVar 3) (mCons (mLit (.int 97)) mNil))) mNil))) (mCons (mIdx 0 (mLit (.int 3))) mNil))) mNil)) (mCons (mLit (.int 2147483629)) mNil))))
    (mRet (mPrim pMod (mCons (mPrim pDiv (mCons (mVar 4) (mCons (mLit (.int 11)) mNil))) (mCons (mVar 1) mNil))))))))))))
/-- _law_one_of -/
def N8 : List Str := ["state", "items"]
def B8 (G : Nat → List O → Cr) : Ms :=
    (mRet (mIdx 1 (mCallS (G 7) 0 (mCons (mRd1 dLen 1) mNil))))
/-- _law_is_int -/
def N9 : List Str := ["x"]
def B9 (G : Nat → List O → Cr) : Ms :=
    (mRet (mAndV (mIsi "int" (mVar 0)) (mNotV (mIsi "bool" (mVar 0)))))
/-- _law_same -/
def N10 : List Str := ["x", "y", "k"]
def B10 (G : Nat → List O → Cr) : Ms :=
    (mSeq (mIf (mTru (mIsi "tuple" (mVar 1)))
    (mSeq (mIf (mOr (mNot (mTru (mIsi "tuple" (mVar 0)))) (mAsB (mPrim (g2 (qEq true)) (mCons (mRd1 dLen 0) (mCons (mRd1 dLen 1) mNil)))))
    (mRet (mLit (.bl false)))
    mDone)
    (mRet (mPrim (g1 dAll) (mCons (mComp [2] (tName 2) (iArgs rng1 (mCons (mRd1 dLen 1) mNil)) mYes (mCall (G 10) (mCons (mIdx 0 (mVar 2)) (mCons (mIdx 1 (mVar 2)) mNil)))) mNil))))
    mDone)
    (mSeq (mIf (mTru (mIsi "str" (mVar 1)))
    (mRet (mAndV (mIsi "str" (mVar 0)) (mPrim (g2 (qEq false)) (mCons (mVar 0) (mCons (mVar 1) mNil)))))
    mDone)
    (mRet (mAndV (mCall (G 9) (mCons (mVar 0) mNil)) (mPrim (g2 (qEq false)) (mCons (mVar 0) (mCons (mVar 1) mNil)))))))
/-- _law_integer_drawn -/
def N11 : List Str := ["state", "many", "pick", "text", "number", "k", "digit"]
def B11 (G : Nat → List O → Cr) : Ms :=
    (mSeq (mAsg (tName 1) (mPrim pItem (mCons (mPrim pLst (mCons (mLit (.int 1)) (mCons (mLit (.int 2)) (mCons (mLit (.int 5)) (mCons (mLit (.int 63)) (mCons (mLit (.int 64)) (mCons (mLit (.int 65)) (mCons (mPrim pAdd (mCons (mLit (.int 1)) (mCons (mCallS (G 7) 0 (mCons (mLit (.int 180)) mNil)) mNil))) mNil)))))))) (mCons (mCallS (G 7) 0 (mCons (mLit (.int 7)) mNil)) mNil))))
    (mSeq (mAsg (tName 2) (mCallS (G 7) 0 (mCons (mLit (.int 4)) mNil)))
    (mSeq (mAsg (tName 3) (mLit (.str [])))
    (mSeq (mAsg (tName 4) (mLit (.int 0)))
    (mSeq (mFor (tName 5) (iArgs rng1 (mCons (mVar 1) mNil))
    (mSeq (mAsg (tName 6) (mCallS (G 7) 0 (mCons (mLit (.int 10)) mNil)))
    (mSeq (mIf (mAsB (mPrim (g2 (qEq false)) (mCons (mVar 2) (mCons (mLit (.int 0)) mNil))))
    (mAsg (tName 6) (mLit (.int 9)))
    (mIf (mAsB (mPrim (g2 (qEq false)) (mCons (mVar 2) (mCons (mLit (.int 1)) mNil))))
    (mAsg (tName 6) (mPrim (g1 dOfInt) (mCons (mPrim (g2 (qEq false)) (mCons (mVar 5) (mCons (mLit (.int 0)) mNil))) mNil)))
    mDone))
    (mSeq (mIf (mAnd (mAsB (mPrim (g2 (qEq false)) (mCons (mVar 5) (mCons (mLit (.int 0)) mNil)))) (mAsB (mPrim (g2 (qEq false)) (mCons (mVar 6) (mCons (mLit (.int 0)) mNil)))))
    (mAsg (tName 6) (mPrim (g1 dOfInt) (mCons (mPrim pGt (mCons (mVar 1) (mCons (mLit (.int 1)) mNil))) mNil)))
    mDone)
    (mSeq (mAsg (tName 3) (mPrim pAdd (mCons (mVar 3) (mCons (mPrim pItem (mCons (mLit (.str [48, 49, 50, 51, 52, 53, 54, 55, 56, 57])) (mCons (mVar 6) mNil))) mNil))))
    (mAsg (tName 4) (mPrim pAdd (mCons (mPrim pMulI (mCons (mLit (.int 10)) (mCons (mVar 4) mNil))) (mCons (mVar 6) mNil)))))))))
    (mSeq (mIf (mAnd (mAsB (mPrim pGt (mCons (mVar 4) (mCons (mLit (.int 0)) mNil)))) (mAsB (mPrim (g2 (qEq false)) (mCons (mCallS (G 7) 0 (mCons (mLit (.int 3)) mNil)) (mCons (mLit (.int 0)) mNil)))))
    (mRet (mPrim pTup (mCons (mPrim pNeg (mCons (mVar 4) mNil)) (mCons (mPrim pAdd (mCons (mLit (.str [45])) (mCons (mVar 3) mNil))) mNil))))
    mDone)
    (mRet (mPrim pTup (mCons (mVar 4) (mCons (mVar 3) mNil))))))))))
/-- _law_text_drawn -/
def N12 : List Str := ["state", "signs", "text", "k"]
def B12 (G : Nat → List O → Cr) : Ms :=
    (mSeq (mAsg (tName 1) (mLit (.str [32, 33, 35, 36, 38, 40, 41, 42, 43, 44, 45, 46, 47, 48, 49, 57, 58, 59, 60, 61, 62, 63, 64, 65, 90, 91, 93, 94, 95, 97, 122, 123, 124, 125, 126])))
    (mSeq (mAsg (tName 2) (mStrM tJoin (mLit (.str [])) (mCons (mComp [3] (tName 3) (iArgs rng1 (mCons (mCallS (G 7) 0 (mCons (mLit (.int 6)) mNil)) mNil)) mYes (mCallS (G 8) 0 (mCons (mVar 1) mNil))) mNil)))
    (mRet (mPrim pTup (mCons (mVar 2) (mCons (mPrim pAdd (mCons (mPrim pAdd (mCons (mLit (.str [39])) (mCons (mVar 2) mNil))) (mCons (mLit (.str [39])) mNil))) mNil))))))
/-- _law_datum_drawn -/
def N13 : List Str := ["state", "depth", "pick", "rows", "k", "datum", "text"]
def B13 (G : Nat → List O → Cr) : Ms :=
    (mSeq (mAsg (tName 2) (mCallS (G 7) 0 (mCons (mLit (.int 6)) mNil)))
    (mSeq (mIf (mOr (mAsB (mPrim (g2 (qEq false)) (mCons (mVar 1) (mCons (mLit (.int 0)) mNil)))) (mAsB (mPrim (g2 (qEq false)) (mCons (mVar 2) (mCons (mLit (.int 0)) mNil)))))
    (mRet (mCallS (G 11) 0 mNil))
    mDone)
    (mSeq (mIf (mAsB (mPrim (g2 (qEq false)) (mCons (mVar 2) (mCons (mLit (.int 1)) mNil))))
    (mRet (mCallS (G 12) 0 mNil))
    mDone)
    (mSeq (mAsg (tName 3) (mComp [4] (tName 4) (iArgs rng1 (mCons (mCallS (G 7) 0 (mCons (mLit (.int 5)) mNil)) mNil)) mYes (mCallS (G 13) 0 (mCons (mPrim pSub (mCons (mVar 1) (mCons (mLit (.int 1)) mNil))) mNil))))
    (mRet (mPrim pTup (mCons (mPrim pTuple (mCons (mComp [5, 6] (tTup [(tName 5), (tName 6)]) (iVal (mVar 3)) mYes (mVar 5)) mNil)) (mCons (mPrim pAdd (mCons (mPrim pAdd (mCons (mLit (.str [40])) (mCons (mStrM tJoin (mLit (.str [44, 32])) (mCons (mComp [5, 6] (tTup [(tName 5), (tName 6)]) (iVal (mVar 3)) mYes (mVar 6)) mNil)) mNil))) (mCons (mLit (.str [41])) mNil))) mNil))))))))
/-- _law_is_refused -/
def N14 : List Str := ["read", "text", "e"]
def B14 (G : Nat → List O → Cr) : Ms :=
    (mSeq (mTryIs 1000 2 (mDrop (mCallV G [1, 5] 0 (mCons (mVar 1) mNil))))
    (mRet (mLit (.bl false))))
/-- _law_bad_integers -/
def N15 : List Str := ["text", "found"]
def B15 (G : Nat → List O → Cr) : Ms :=
    (mSeq (mAsg (tName 1) (mPrim pLst (mCons (mLit (.str [])) (mCons (mLit (.str [45])) (mCons (mLit (.str [45, 48])) (mCons (mPrim pAdd (mCons (mLit (.str [43])) (mCons (mVar 0) mNil))) (mCons (mPrim pAdd (mCons (mLit (.str [32])) (mCons (mVar 0) mNil))) (mCons (mPrim pAdd (mCons (mVar 0) (mCons (mLit (.str [32])) mNil))) (mCons (mLit (.str [48, 48])) (mCons (mPrim pAdd (mCons (mLit (.str [48])) (mCons (mVar 0) mNil))) (mCons (mLit (.str [45, 45, 49])) (mCons (mLit (.str [49, 45])) (mCons (mPrim pAdd (mCons (mVar 0) (mCons (mLit (.str [120])) mNil))) (mCons (mLit (.str [97])) (mCons (mLit (.str [40, 41])) mNil)))))))))))))))
    (mRet (mPrim pAdd (mCons (mVar 1) (mCons (mPrim pLst (mCons (mPrim pAdd (mCons (mVar 0) (mCons (mLit (.str [46, 48])) mNil))) (mCons (mLit (.str [49, 32, 50])) (mCons (mLit (.str [49, 44, 50])) (mCons (mLit (.str [39, 49, 39])) (mCons (mLit (.str [40, 49, 41])) (mCons (mLit (.str [48, 120, 49])) (mCons (mLit (.str [49, 95, 48])) mNil)))))))) mNil)))))
/-- _law_bad_data -/
def N16 : List Str := ["state", "text", "at", "found"]
def B16 (G : Nat → List O → Cr) : Ms :=
    (mSeq (mAsg (tName 2) (mCallS (G 7) 0 (mCons (mPrim pAdd (mCons (mRd1 dLen 1) (mCons (mLit (.int 1)) mNil))) mNil)))
    (mSeq (mAsg (tName 3) (mPrim pLst (mCons (mLit (.str [])) (mCons (mLit (.str [32])) (mCons (mLit (.str [40])) (mCons (mLit (.str [41])) (mCons (mPrim pAdd (mCons (mVar 1) (mCons (mLit (.str [32])) mNil))) (mCons (mPrim pAdd (mCons (mLit (.str [32])) (mCons (mVar 1) mNil))) (mCons (mPrim pAdd (mCons (mVar 1) (mCons (mLit (.str [41])) mNil))) (mCons (mPrim pAdd (mCons (mLit (.str [40])) (mCons (mVar 1) mNil))) (mCons (mPrim pAdd (mCons (mPrim pAdd (mCons (mVar 1) (mCons (mLit (.str [44, 32])) mNil))) (mCons (mVar 1) mNil))) (mCons (mLit (.str [39])) (mCons (mLit (.str [39, 97])) (mCons (mLit (.str [97, 39])) (mCons (mLit (.str [122, 122])) mNil)))))))))))))))
    (mSeq (mAsg (tName 3) (mPrim pAdd (mCons (mVar 3) (mCons (mPrim pLst (mCons (mLit (.str [40, 49, 44, 50, 41])) (mCons (mLit (.str [40, 49, 44, 32, 32, 50, 41])) (mCons (mLit (.str [40, 49, 32, 44, 32, 50, 41])) (mCons (mLit (.str [40, 32, 49, 41])) (mCons (mLit (.str [40, 49, 32, 41])) (mCons (mLit (.str [40, 49, 44, 32, 41])) (mCons (mLit (.str [40, 44, 32, 49, 41])) (mCons (mLit (.str [40, 49, 44, 41])) (mCons (mLit (.str [40, 39, 97, 39, 39, 98, 39, 41])) (mCons (mLit (.str [40, 48, 49, 41])) (mCons (mLit (.str [40, 45, 48, 41])) mNil)))))))))))) mNil))))
    (mRet (mPrim pAdd (mCons (mVar 3) (mCons (mPrim pLst (mCons (mLit (.str [91, 49, 93])) (mCons (mLit (.str [40, 49, 59, 32, 50, 41])) (mCons (mPrim pAdd (mCons (mPrim pAdd (mCons (mLit (.str [39, 97])) (mCons (mLit (.str [10])) mNil))) (mCons (mLit (.str [98, 39])) mNil))) (mCons (mPrim pAdd (mCons (mVar 1) (mCons (mLit (.str [10])) mNil))) (mCons (mLit (.str [40, 39, 97, 41])) (mCons (mLit (.str [40, 40, 49, 44, 32, 50, 41])) (mCons (mLit (.str [40, 49, 44, 32, 50, 41, 41])) (mCons (mPrim pAdd (mCons (mPrim pAdd (mCons (mSlice (mVar 1) mNo (mPart (mVar 2))) (mCons (mLit (.str [10])) mNil))) (mCons (mSlice (mVar 1) (mPart (mVar 2)) mNo) mNil))) mNil))))))))) mNil)))))))
/-- law -/
def N17 : List Str := ["script", "state", "turn", "number", "text", "datum", "written", "deep", "nest", "k"]
def B17 (G : Nat → List O → Cr) : Ms :=
    (mSeq (mAsg (tName 1) (mCall (G 6) (mCons (mVar 0) mNil)))
    (mSeq (mFor (tName 2) (iArgs rng1 (mCons (mLit (.int 4)) mNil))
    (mSeq (mAsg (tTup [(tName 3), (tName 4)]) (mCallS (G 11) 1 mNil))
    (mSeq (mIf (mOr (mNot (mTru (mCall (G 10) (mCons (mCall (G 0) (mCons (mVar 3) mNil)) (mCons (mVar 4) mNil))))) (mNot (mTru (mCall (G 10) (mCons (mCall (G 1) (mCons (mVar 4) mNil)) (mCons (mVar 3) mNil))))))
    (mRet (mLit (.bl false)))
    mDone)
    (mSeq (mAsg (tTup [(tName 5), (tName 6)]) (mCallS (G 13) 1 (mCons (mLit (.int 6)) mNil)))
    (mSeq (mIf (mOr (mNot (mTru (mCall (G 10) (mCons (mCall (G 2) (mCons (mVar 5) mNil)) (mCons (mVar 6) mNil))))) (mNot (mTru (mCall (G 10) (mCons (mCall (G 5) (mCons (mVar 6) mNil)) (mCons (mVar 5) mNil))))))
    (mRet (mLit (.bl false)))
    mDone)
    (mSeq (mIf (mNot (mTru (mCall (G 14) (mCons (mLit (.fn 1)) (mCons (mCallS (G 8) 1 (mCons (mCall (G 15) (mCons (mVar 4) mNil)) mNil)) mNil)))))
    (mRet (mLit (.bl false)))
    mDone)
    (mIf (mNot (mTru (mCall (G 14) (mCons (mLit (.fn 5)) (mCons (mCallS (G 8) 1 (mCons (mCallS (G 16) 1 (mCons (mVar 6) mNil)) mNil)) mNil)))))
    (mRet (mLit (.bl false)))
    mDone)))))))
    (mSeq (mAsg (tName 7) (mPrim pAdd (mCons (mLit (.int 198)) (mCons (mCallS (G 7) 1 (mCons (mLit (.int 5)) mNil)) mNil))))
    (mSeq (mAsg (tTup [(tName 3), (tName 4)]) (mCallS (G 11) 1 mNil))
    (mSeq (mAsg (tName 8) (mPrim pAdd (mCons (mPrim pAdd (mCons (mPrim pMul2 (mCons (mLit (.str [40])) (mCons (mVar 7) mNil))) (mCons (mVar 4) mNil))) (mCons (mPrim pMul2 (mCons (mLit (.str [41])) (mCons (mVar 7) mNil))) mNil))))
    (mSeq (mIf (mAsB (mPrim pGt (mCons (mVar 7) (mCons (mLit (.int 200)) mNil))))
    (mRet (mAndV (mCall (G 14) (mCons (mLit (.fn 5)) (mCons (mVar 8) mNil))) (mCall (G 14) (mCons (mLit (.fn 5)) (mCons (mPrim pAdd (mCons (mPrim pMul2 (mCons (mLit (.str [40])) (mCons (mVar 7) mNil))) (mCons (mPrim pMul2 (mCons (mLit (.str [41])) (mCons (mVar 7) mNil))) mNil))) mNil)))))
    mDone)
    (mSeq (mAsg (tName 5) (mVar 3))
    (mSeq (mFor (tName 9) (iArgs rng1 (mCons (mVar 7) mNil))
    (mAsg (tName 5) (mPrim pTup (mCons (mVar 5) mNil))))
    (mRet (mAndV (mCall (G 10) (mCons (mCall (G 5) (mCons (mVar 8) mNil)) (mCons (mVar 5) mNil))) (mCall (G 10) (mCons (mCall (G 2) (mCons (mVar 5) mNil)) (mCons (mVar 8) mNil)))))))))))))
noncomputable def stp (G : Nat → List O → Cr) : Nat → List O → Cr
  | 0 => fnOf false 2 (B0 G)
  | 1 => fnOf false 5 (B1 G)
  | 2 => fnOf false 1 (B2 G)
  | 3 => fnOf false 1 (B3 G)
  | 4 => fnOf false 1 (B4 G)
  | 5 => fnOf false 5 (B5 G)
  | 6 => fnOf false 0 (B6 G)
  | 7 => fnOf true 3 (B7 G)
  | 8 => fnOf true 0 (B8 G)
  | 9 => fnOf false 0 (B9 G)
  | 10 => fnOf false 1 (B10 G)
  | 11 => fnOf true 6 (B11 G)
  | 12 => fnOf true 3 (B12 G)
  | 13 => fnOf true 5 (B13 G)
  | 14 => fnOf false 1 (B14 G)
  | 15 => fnOf false 1 (B15 G)
  | 16 => fnOf true 2 (B16 G)
  | 17 => fnOf false 9 (B17 G)
  | _ => fun _ => .bad
noncomputable def sem : Nat → Nat → List O → Cr
  | 0 => fun _ _ => .bad
  | n + 1 => stp (sem n)
def fns : List (Str × List Str) := [(("write_integer" : Str), (["n"] : List Str)), (("read_integer" : Str), (["text"] : List Str)), (("write_data" : Str), (["datum"] : List Str)), (("plain_text" : Str), (["text"] : List Str)), (("read_plain" : Str), (["text", "start"] : List Str)), (("read_data" : Str), (["text"] : List Str)), (("_law_start" : Str), (["script"] : List Str)), (("_law_draw" : Str), (["state", "most"] : List Str)), (("_law_one_of" : Str), (["state", "items"] : List Str)), (("_law_is_int" : Str), (["x"] : List Str)), (("_law_same" : Str), (["x", "y"] : List Str)), (("_law_integer_drawn" : Str), (["state"] : List Str)), (("_law_text_drawn" : Str), (["state"] : List Str)), (("_law_datum_drawn" : Str), (["state", "depth"] : List Str)), (("_law_is_refused" : Str), (["read", "text"] : List Str)), (("_law_bad_integers" : Str), (["text"] : List Str)), (("_law_bad_data" : Str), (["state", "text"] : List Str)), (("law" : Str), (["script"] : List Str))]
def dD (x : Str) (i : Nat) : He.DefD := ⟨(x, none), x, x, defArgs (top i), defBody (top i), defScope (top i), [], []⟩
def fn : List He.DefD := [dD "write_integer" 6, dD "read_integer" 7, dD "write_data" 11, dD "plain_text" 12, dD "read_plain" 13, dD "read_data" 14, dD "_law_start" 16, dD "_law_draw" 17, dD "_law_one_of" 18, dD "_law_is_int" 19, dD "_law_same" 20, dD "_law_integer_drawn" 21, dD "_law_text_drawn" 22, dD "_law_datum_drawn" 23, dD "_law_is_refused" 24, dD "_law_bad_integers" 25, dD "_law_bad_data" 26, dD "law" 27]
def fa : List He.Fa := [.int "BASE" (10000000000000000000000000000000000000000000000000000000000000000), .free "divmod", .free "str", .glo "BadText", .glo "AllitemsError", .exc "BadText", .exm "BadText" "BadText" true, .str "DIGITS" "0123456789", .free "len", .free "int", .free "range", .free "isinstance", .free "tuple", .free "ord", .str "SIGNS" "-0123456789", .int "DEPTH" (200), .free "list", .free "abs", .free "bool", .free "all", .glo "read_integer", .glo "read_data", .glo "write_integer", .glo "write_data", .glo "plain_text", .glo "read_plain", .glo "_law_start", .glo "_law_draw", .glo "_law_one_of", .glo "_law_is_int", .glo "_law_same", .glo "_law_integer_drawn", .glo "_law_text_drawn", .glo "_law_datum_drawn", .glo "_law_is_refused", .glo "_law_bad_integers", .glo "_law_bad_data", .glo "law"]
def two : Nat → Bool
  | _ => false
def ts : List He.Tab := []
def exs (K : PySem.W.Frag) : Bool := excCB K (He.ga K "BadText") (He.ga K "AllitemsError")
def Had (K : PySem.W.Frag) (ad : Nat → Addr) : Prop := (∀ (i : Nat) (x : Str) (ps : List Str), fns[i]? = some (x, ps) → ad i = He.ga K x) ∧ ad 1000 = He.ga K "BadText"
def adOf (K : PySem.W.Frag) (i : Nat) : Addr := match fns[i]? with
  | some (x, _) => He.ga K x
  | none => He.ga K "BadText"
theorem adOf_ok (K : PySem.W.Frag) : Had K (adOf K) := ⟨fun i x ps h => by unfold adOf; rw [h], rfl⟩
end K33

set_option Elab.async false
set_option linter.all false
set_option maxRecDepth 100000
set_option maxHeartbeats 0
namespace K33
open PySem PySem.Spec PyProof.Rows L2 Mn
section
variable {P : Program} {w : World} {K : PySem.W.Frag} {mg : Str → Option Value} {base : Heap} {ad : Nat → Addr}
theorem qi0 (c : He.SaysD fa fn K) (KX : K.In base) (G : base.Ns mainGlobals mg) : ∃ t, mg "BASE" = some (.int (10000000000000000000000000000000000000000000000000000000000000000) t) := He.int_ok KX G (c.fact 0 (f := .int "BASE" (10000000000000000000000000000000000000000000000000000000000000000)) rfl)
theorem qf1 (c : He.SaysD fa fn K) (KX : K.In base) (G : base.Ns mainGlobals mg) : mg "divmod" = none := He.free_ok KX G (c.fact 1 (f := .free "divmod") rfl)
theorem qf2 (c : He.SaysD fa fn K) (KX : K.In base) (G : base.Ns mainGlobals mg) : mg "str" = none := He.free_ok KX G (c.fact 2 (f := .free "str") rfl)
theorem qg3 (c : He.SaysD fa fn K) (KX : K.In base) (G : base.Ns mainGlobals mg) : mg "BadText" = some (.ref (He.ga K "BadText")) := He.glo_ok KX G (c.fact 3 (f := .glo "BadText") rfl)
theorem qg4 (c : He.SaysD fa fn K) (KX : K.In base) (G : base.Ns mainGlobals mg) : mg "AllitemsError" = some (.ref (He.ga K "AllitemsError")) := He.glo_ok KX G (c.fact 4 (f := .glo "AllitemsError") rfl)
theorem qs7 (c : He.SaysD fa fn K) (KX : K.In base) (G : base.Ns mainGlobals mg) : ∃ t, mg "DIGITS" = some (.str "0123456789" t) := He.str_ok KX G (c.fact 7 (f := .str "DIGITS" "0123456789") rfl)
theorem qf8 (c : He.SaysD fa fn K) (KX : K.In base) (G : base.Ns mainGlobals mg) : mg "len" = none := He.free_ok KX G (c.fact 8 (f := .free "len") rfl)
theorem qf9 (c : He.SaysD fa fn K) (KX : K.In base) (G : base.Ns mainGlobals mg) : mg "int" = none := He.free_ok KX G (c.fact 9 (f := .free "int") rfl)
theorem qf10 (c : He.SaysD fa fn K) (KX : K.In base) (G : base.Ns mainGlobals mg) : mg "range" = none := He.free_ok KX G (c.fact 10 (f := .free "range") rfl)
theorem qf11 (c : He.SaysD fa fn K) (KX : K.In base) (G : base.Ns mainGlobals mg) : mg "isinstance" = none := He.free_ok KX G (c.fact 11 (f := .free "isinstance") rfl)
theorem qf12 (c : He.SaysD fa fn K) (KX : K.In base) (G : base.Ns mainGlobals mg) : mg "tuple" = none := He.free_ok KX G (c.fact 12 (f := .free "tuple") rfl)
theorem qf13 (c : He.SaysD fa fn K) (KX : K.In base) (G : base.Ns mainGlobals mg) : mg "ord" = none := He.free_ok KX G (c.fact 13 (f := .free "ord") rfl)
theorem qs14 (c : He.SaysD fa fn K) (KX : K.In base) (G : base.Ns mainGlobals mg) : ∃ t, mg "SIGNS" = some (.str "-0123456789" t) := He.str_ok KX G (c.fact 14 (f := .str "SIGNS" "-0123456789") rfl)
theorem qi15 (c : He.SaysD fa fn K) (KX : K.In base) (G : base.Ns mainGlobals mg) : ∃ t, mg "DEPTH" = some (.int (200) t) := He.int_ok KX G (c.fact 15 (f := .int "DEPTH" (200)) rfl)
theorem qf16 (c : He.SaysD fa fn K) (KX : K.In base) (G : base.Ns mainGlobals mg) : mg "list" = none := He.free_ok KX G (c.fact 16 (f := .free "list") rfl)
theorem qf17 (c : He.SaysD fa fn K) (KX : K.In base) (G : base.Ns mainGlobals mg) : mg "abs" = none := He.free_ok KX G (c.fact 17 (f := .free "abs") rfl)
theorem qf18 (c : He.SaysD fa fn K) (KX : K.In base) (G : base.Ns mainGlobals mg) : mg "bool" = none := He.free_ok KX G (c.fact 18 (f := .free "bool") rfl)
theorem qf19 (c : He.SaysD fa fn K) (KX : K.In base) (G : base.Ns mainGlobals mg) : mg "all" = none := He.free_ok KX G (c.fact 19 (f := .free "all") rfl)
theorem qg20 (c : He.SaysD fa fn K) (KX : K.In base) (G : base.Ns mainGlobals mg) : mg "read_integer" = some (.ref (He.ga K "read_integer")) := He.glo_ok KX G (c.fact 20 (f := .glo "read_integer") rfl)
theorem qg21 (c : He.SaysD fa fn K) (KX : K.In base) (G : base.Ns mainGlobals mg) : mg "read_data" = some (.ref (He.ga K "read_data")) := He.glo_ok KX G (c.fact 21 (f := .glo "read_data") rfl)
theorem qg22 (c : He.SaysD fa fn K) (KX : K.In base) (G : base.Ns mainGlobals mg) : mg "write_integer" = some (.ref (He.ga K "write_integer")) := He.glo_ok KX G (c.fact 22 (f := .glo "write_integer") rfl)
theorem qg23 (c : He.SaysD fa fn K) (KX : K.In base) (G : base.Ns mainGlobals mg) : mg "write_data" = some (.ref (He.ga K "write_data")) := He.glo_ok KX G (c.fact 23 (f := .glo "write_data") rfl)
theorem qg24 (c : He.SaysD fa fn K) (KX : K.In base) (G : base.Ns mainGlobals mg) : mg "plain_text" = some (.ref (He.ga K "plain_text")) := He.glo_ok KX G (c.fact 24 (f := .glo "plain_text") rfl)
theorem qg25 (c : He.SaysD fa fn K) (KX : K.In base) (G : base.Ns mainGlobals mg) : mg "read_plain" = some (.ref (He.ga K "read_plain")) := He.glo_ok KX G (c.fact 25 (f := .glo "read_plain") rfl)
theorem qg26 (c : He.SaysD fa fn K) (KX : K.In base) (G : base.Ns mainGlobals mg) : mg "_law_start" = some (.ref (He.ga K "_law_start")) := He.glo_ok KX G (c.fact 26 (f := .glo "_law_start") rfl)
theorem qg27 (c : He.SaysD fa fn K) (KX : K.In base) (G : base.Ns mainGlobals mg) : mg "_law_draw" = some (.ref (He.ga K "_law_draw")) := He.glo_ok KX G (c.fact 27 (f := .glo "_law_draw") rfl)
theorem qg28 (c : He.SaysD fa fn K) (KX : K.In base) (G : base.Ns mainGlobals mg) : mg "_law_one_of" = some (.ref (He.ga K "_law_one_of")) := He.glo_ok KX G (c.fact 28 (f := .glo "_law_one_of") rfl)
theorem qg29 (c : He.SaysD fa fn K) (KX : K.In base) (G : base.Ns mainGlobals mg) : mg "_law_is_int" = some (.ref (He.ga K "_law_is_int")) := He.glo_ok KX G (c.fact 29 (f := .glo "_law_is_int") rfl)
theorem qg30 (c : He.SaysD fa fn K) (KX : K.In base) (G : base.Ns mainGlobals mg) : mg "_law_same" = some (.ref (He.ga K "_law_same")) := He.glo_ok KX G (c.fact 30 (f := .glo "_law_same") rfl)
theorem qg31 (c : He.SaysD fa fn K) (KX : K.In base) (G : base.Ns mainGlobals mg) : mg "_law_integer_drawn" = some (.ref (He.ga K "_law_integer_drawn")) := He.glo_ok KX G (c.fact 31 (f := .glo "_law_integer_drawn") rfl)
theorem qg32 (c : He.SaysD fa fn K) (KX : K.In base) (G : base.Ns mainGlobals mg) : mg "_law_text_drawn" = some (.ref (He.ga K "_law_text_drawn")) := He.glo_ok KX G (c.fact 32 (f := .glo "_law_text_drawn") rfl)
theorem qg33 (c : He.SaysD fa fn K) (KX : K.In base) (G : base.Ns mainGlobals mg) : mg "_law_datum_drawn" = some (.ref (He.ga K "_law_datum_drawn")) := He.glo_ok KX G (c.fact 33 (f := .glo "_law_datum_drawn") rfl)
theorem qg34 (c : He.SaysD fa fn K) (KX : K.In base) (G : base.Ns mainGlobals mg) : mg "_law_is_refused" = some (.ref (He.ga K "_law_is_refused")) := He.glo_ok KX G (c.fact 34 (f := .glo "_law_is_refused") rfl)
theorem qg35 (c : He.SaysD fa fn K) (KX : K.In base) (G : base.Ns mainGlobals mg) : mg "_law_bad_integers" = some (.ref (He.ga K "_law_bad_integers")) := He.glo_ok KX G (c.fact 35 (f := .glo "_law_bad_integers") rfl)
theorem qg36 (c : He.SaysD fa fn K) (KX : K.In base) (G : base.Ns mainGlobals mg) : mg "_law_bad_data" = some (.ref (He.ga K "_law_bad_data")) := He.glo_ok KX G (c.fact 36 (f := .glo "_law_bad_data") rfl)
theorem qg37 (c : He.SaysD fa fn K) (KX : K.In base) (G : base.Ns mainGlobals mg) : mg "law" = some (.ref (He.ga K "law")) := He.glo_ok KX G (c.fact 37 (f := .glo "law") rfl)
theorem clsOk (c : He.SaysD fa fn K) (cx : exs K = true) (KX : K.In base) (G : base.Ns mainGlobals mg) : ClsOk K mg "BadText" "AllitemsError" (He.ga K "BadText") (He.ga K "AllitemsError") := clsOk_of (qg3 c KX G) (qg4 c KX G) (He.exc_ok (c.fact 5 (f := .exc "BadText") rfl)) (He.exm_ok (c.fact 6 (f := .exm "BadText" "BadText" true) rfl)) cx
abbrev FnT (K : PySem.W.Frag) (d : He.DefD) (fd : FuncData) : Prop := FunD K d.name d.qual d.params d.body d.scope (d.dvs K) (d.kws K) (He.fAd K d.at_) fd
def All (P : Program) (w : World) (K : PySem.W.Frag) (mg : Str → Option Value) (base : Heap) (ad : Nat → Addr) (n : Nat) : Prop := ∀ (i : Nat) (x : Str) (ps : List Str), fns[i]? = some (x, ps) → ∃ fd, FnOk P w K mg base (L2.CX P w) n (He.ga K x) fd ps (spN (two i) K ad ps.length (sem n i)) ∧ mg x = some (.ref (He.ga K x)) ∧ PySem.W.keepIn K (.ref (He.ga K x)) = true ∧ Binds K fd ps []
theorem cal {n : Nat} (hA : All P w K mg base ad n) {A : Around} (hr : Room n A) (i : Nat) {x : Str} {ps : List Str} (h : fns[i]? = some (x, ps)) (h2 : two i = false := by rfl) : Cal P w K mg base A ad x ps.length (sem n i) := by
  obtain ⟨fd, F, h1, h3, h4⟩ := hA i x ps h
  rw [h2] at F
  exact ⟨n, _, fd, ps, F, hr, h1, h3, h4⟩
theorem cal2 {n : Nat} (hA : All P w K mg base ad n) {A : Around} (hr : Room n A) (i : Nat) {x : Str} {ps : List Str} (h : fns[i]? = some (x, ps)) (h2 : two i = true := by rfl) : Cal2 P w K mg base A ad x ps.length (sem n i) := by
  obtain ⟨fd, F, h1, h3, h4⟩ := hA i x ps h
  rw [h2] at F
  exact ⟨n, _, fd, ps, F, hr, h1, h3, h4⟩
theorem len1 {ms : M (List O)} {n : Nat} (h : ∀ E os E', ms E = .ok os E' → os.length = n) : ∀ E os E', ms E = .ok os E' → os.length + 1 = n + 1 := fun E os E' e => by rw [h E os E' e]
theorem calv {n : Nat} (hA : All P w K mg base ad n) (had : Had K ad) {A : Around} (hr : Room n A) (i : Nat) {x : Str} {ps : List Str} (h : fns[i]? = some (x, ps)) (h2 : two i = false := by rfl) : CalV P w K mg base A ad (ad i) ps.length (sem n i) := by
  obtain ⟨fd, F, h1, h3, h4⟩ := hA i x ps h
  rw [h2] at F
  rw [had.1 i x ps h]
  exact ⟨n, fd, ps, F, hr, h3, h4⟩
theorem sc0 : FnScope N0 ["n"] (defScope (top 6)) := ⟨rfl, rfl, rfl, by decide +kernel, rfl, by decide +kernel, by decide +kernel⟩
/-- write_integer -/
theorem ok0 {n : Nat} {fd : FuncData} (F : FnT K (dD "write_integer" 6) fd) (c : He.SaysD fa fn K) (cx : exs K = true) (ct : He.SaysT fa fn ts w K) (had : Had K ad) (KX : K.In base) (G : base.Ns mainGlobals mg) (hA : All P w K mg base ad n) : FnOk P w K mg base (L2.CX P w) (n + 1) (He.ga K "write_integer") fd ["n"] (spOf K ad 1 (sem (n + 1) 0)) ∧ PySem.W.keepIn K (.ref (He.ga K "write_integer")) = true ∧ Binds K fd ["n"] [] := by
  refine ⟨fn_body F sc0 false 2 rfl (B0 (sem n)) (by decide) fun cdv A outer s H E W hr hp tk => ?_, F.kp, F.bindsN fun _ _ _ _ _ _ us hl => match us, hl with | [_], _ => rfl⟩
  have nd := sc0.nd
  have hu := room65 hr
  exact (z_cons (z_if (t_cmp o_lt k_lt (s_var 0) s_int)
    (z_one (z_ret (s_bin o_add k_add (s_str [45]) (s_call (cal hA hr 0 rfl) tk (s_cons (s_un un_neg k_neg (s_var 0)) s_nil) rfl (lenCons lenNil)))))
    z_nil)
    (z_cons (z_asg (s_lst s_nil) (g_name 1 nd))
    (z_cons (z_while hp (t_cmp o_ge k_ge (s_var 0) (sgI (qi0 c KX G)))
    (z_cons (z_asg (s_callB call_divmodW k_divmod (qf1 c KX G) (s_cons (s_var 0) (s_cons (sgI (qi0 c KX G)) s_nil))) (g_tup rfl (gs_cons (g_name 0 nd) (gs_cons (g_name 2 nd) gs_nil))))
    (z_one (z_expr (s_meth 1 PySem.F.slot_list_append PySem.F.type_list_append mt_append k_append rfl (by first | exact Or.inl rfl | exact Or.inr (Or.inl rfl) | exact Or.inr (Or.inr rfl)) (s_cons (s_strM PySem.F.slot_str_zfill PySem.F.type_str_zfill mt_zfill k_zfill (s_callT call_str_int k_str (qf2 c KX G) (s_cons (s_var 2) s_nil)) (s_cons s_int s_nil)) s_nil))))))
    (z_cons (z_expr (s_meth 1 PySem.F.slot_list_append PySem.F.type_list_append mt_append k_append rfl (by first | exact Or.inl rfl | exact Or.inr (Or.inl rfl) | exact Or.inr (Or.inr rfl)) (s_cons (s_callT call_str_int k_str (qf2 c KX G) (s_cons (s_var 0) s_nil)) s_nil)))
    (z_one (z_ret (s_strM PySem.F.slot_str_join PySem.F.type_str_join mt_join k_join (s_str []) (s_cons (s_rev (s_var 1)) s_nil))))))))
theorem sc1 : FnScope N1 ["text"] (defScope (top 7)) := ⟨rfl, rfl, rfl, by decide +kernel, rfl, by decide +kernel, by decide +kernel⟩
/-- read_integer -/
theorem ok1 {n : Nat} {fd : FuncData} (F : FnT K (dD "read_integer" 7) fd) (c : He.SaysD fa fn K) (cx : exs K = true) (ct : He.SaysT fa fn ts w K) (had : Had K ad) (KX : K.In base) (G : base.Ns mainGlobals mg) (hA : All P w K mg base ad n) : FnOk P w K mg base (L2.CX P w) (n + 1) (He.ga K "read_integer") fd ["text"] (spOf K ad 1 (sem (n + 1) 1)) ∧ PySem.W.keepIn K (.ref (He.ga K "read_integer")) = true ∧ Binds K fd ["text"] [] := by
  refine ⟨fn_body F sc1 false 5 rfl (B1 (sem n)) (by decide) fun cdv A outer s H E W hr hp tk => ?_, F.kp, F.bindsN fun _ _ _ _ _ _ us hl => match us, hl with | [_], _ => rfl⟩
  have nd := sc1.nd
  have hu := room65 hr
  exact (z_cons (z_asg (s_var 0) (g_name 1 nd))
    (z_cons (z_if (t_cmp (o_eq (hu64 hu)) b_eq.prm (s_slice (s_var 0) o_no (o_part s_int)) (s_str [45]))
    (z_one (z_asg (s_slice (s_var 0) (o_part s_int) o_no) (g_name 1 nd)))
    z_nil)
    (z_cons (z_if (SW.pt (w_or (t_cmp (o_eq (hu64 hu)) b_eq.prm (s_var 1) (s_str [])) (w_or1 (SW.pt (w_and (t_cmp (o_eq (hu64 hu)) b_eq.prm (s_idx 1 hu s_int rfl (by first | exact Or.inl rfl | exact Or.inr (Or.inl rfl) | exact Or.inr (Or.inr rfl))) (s_str [48])) (w_and1 (t_cmp (o_ne (hu64 hu)) b_ne.prm (s_var 0) (s_str [48]))))))))
    (z_one (z_raiseC 1000 had.2 (clsOk c cx KX G) tk))
    z_nil)
    (z_cons (z_for hp rfl (i_val (s_var 1)) (g_name 2 nd)
    (z_one (z_if (t_cmp (o_ni hu) b_ni.prm (s_var 2) (sgS [48, 49, 50, 51, 52, 53, 54, 55, 56, 57] (qs7 c KX G)))
    (z_one (z_raiseC 1000 had.2 (clsOk c cx KX G) tk))
    z_nil)))
    (z_cons (z_asg (s_bin op_mod k_mod (s_lenB 1 (qf8 c KX G) rfl rfl (by first | exact Or.inl rfl | exact Or.inr (Or.inl rfl) | exact Or.inr (Or.inr rfl))) s_int) (g_name 3 nd))
    (z_cons (z_asg s_int (g_name 4 nd))
    (z_cons (z_if (t_cmp o_gt k_gt (s_var 3) s_int)
    (z_one (z_asg (s_callT c_int k_int (qf9 c KX G) (s_cons (s_slice (s_var 1) o_no (o_part (s_var 3))) s_nil)) (g_name 4 nd)))
    z_nil)
    (z_cons (z_for hp rfl (i_range3 (qf10 c KX G) (s_cons (s_var 3) (s_cons (s_lenB 1 (qf8 c KX G) rfl rfl (by first | exact Or.inl rfl | exact Or.inr (Or.inl rfl) | exact Or.inr (Or.inr rfl))) (s_cons s_int s_nil)))) (g_name 5 nd)
    (z_one (z_asg (s_bin o_add k_add (s_bin op_mulW k_mulI (s_var 4) (sgI (qi0 c KX G))) (s_callT c_int k_int (qf9 c KX G) (s_cons (s_slice (s_var 1) (o_part (s_var 5)) (o_part (s_bin o_add k_add (s_var 5) s_int))) s_nil))) (g_name 4 nd))))
    (z_cons (z_if (t_cmp (o_eq (hu64 hu)) b_eq.prm (s_idx 0 hu s_int rfl (by first | exact Or.inl rfl | exact Or.inr (Or.inl rfl) | exact Or.inr (Or.inr rfl))) (s_str [45]))
    (z_one (z_ret (s_un un_neg k_neg (s_var 4))))
    z_nil)
    (z_one (z_ret (s_var 4))))))))))))
theorem sc2 : FnScope N2 ["datum"] (defScope (top 11)) := ⟨rfl, rfl, rfl, by decide +kernel, rfl, by decide +kernel, by decide +kernel⟩
/-- write_data -/
theorem ok2 {n : Nat} {fd : FuncData} (F : FnT K (dD "write_data" 11) fd) (c : He.SaysD fa fn K) (cx : exs K = true) (ct : He.SaysT fa fn ts w K) (had : Had K ad) (KX : K.In base) (G : base.Ns mainGlobals mg) (hA : All P w K mg base ad n) : FnOk P w K mg base (L2.CX P w) (n + 1) (He.ga K "write_data") fd ["datum"] (spOf K ad 1 (sem (n + 1) 2)) ∧ PySem.W.keepIn K (.ref (He.ga K "write_data")) = true ∧ Binds K fd ["datum"] [] := by
  refine ⟨fn_body F sc2 false 1 rfl (B2 (sem n)) (by decide) fun cdv A outer s H E W hr hp tk => ?_, F.kp, F.bindsN fun _ _ _ _ _ _ us hl => match us, hl with | [_], _ => rfl⟩
  have nd := sc2.nd
  have hu := room65 hr
  exact (z_cons (z_if (t_truth (s_isi (T' := "tuple") (by decide) (qf11 c KX G) (qf12 c KX G) (by decide +kernel) (s_var 0)))
    (z_one (z_ret (s_bin o_add k_add (s_bin o_add k_add (s_str [40]) (s_strM PySem.F.slot_str_join PySem.F.type_str_join mt_join k_join (s_str [44, 32]) (s_cons (s_comp rfl nd [("item", 1)] (i_val (s_var 0)) (fun _ _ _ _ _ => (g_name 1 nd)) (fun _ _ _ _ _ => c_yes) (fun _ _ _ _ _ => (s_call (cal hA hr 2 rfl) tk0 (s_cons (s_var 1) s_nil) rfl (lenCons lenNil))) (blkOk_by (by show blkC N2 (defScope (top 11)) _ _ = true; decide +kernel))) s_nil))) (s_str [41]))))
    z_nil)
    (z_cons (z_if (t_truth (s_isi (T' := "str") (by decide) (qf11 c KX G) (qf2 c KX G) (by decide +kernel) (s_var 0)))
    (z_one (z_ret (s_bin o_add k_add (s_bin o_add k_add (s_str [39]) (s_var 0)) (s_str [39]))))
    z_nil)
    (z_one (z_ret (s_call (cal hA hr 0 rfl) tk (s_cons (s_var 0) s_nil) rfl (lenCons lenNil))))))
theorem sc3 : FnScope N3 ["text"] (defScope (top 12)) := ⟨rfl, rfl, rfl, by decide +kernel, rfl, by decide +kernel, by decide +kernel⟩
/-- plain_text -/
theorem ok3 {n : Nat} {fd : FuncData} (F : FnT K (dD "plain_text" 12) fd) (c : He.SaysD fa fn K) (cx : exs K = true) (ct : He.SaysT fa fn ts w K) (had : Had K ad) (KX : K.In base) (G : base.Ns mainGlobals mg) (hA : All P w K mg base ad n) : FnOk P w K mg base (L2.CX P w) (n + 1) (He.ga K "plain_text") fd ["text"] (spOf K ad 1 (sem (n + 1) 3)) ∧ PySem.W.keepIn K (.ref (He.ga K "plain_text")) = true ∧ Binds K fd ["text"] [] := by
  refine ⟨fn_body F sc3 false 1 rfl (B3 (sem n)) (by decide) fun cdv A outer s H E W hr hp tk => ?_, F.kp, F.bindsN fun _ _ _ _ _ _ us hl => match us, hl with | [_], _ => rfl⟩
  have nd := sc3.nd
  have hu := room65 hr
  exact (z_cons (z_for hp rfl (i_val (s_var 0)) (g_name 1 nd)
    (z_one (z_if (SW.pt (w_or (t_cmp o_lt k_lt (s_var 1) (s_str [32])) (w_or (t_cmp o_gt k_gt (s_var 1) (s_str [126])) (w_or (t_cmp (o_eq (hu64 hu)) b_eq.prm (s_var 1) (s_str [39])) (w_or1 (t_cmp (o_eq (hu64 hu)) b_eq.prm (s_callB call_ord k_ordC (qf13 c KX G) (s_cons (s_var 1) s_nil)) s_int))))))
    (z_one (z_ret s_bl))
    z_nil)))
    (z_one (z_ret s_bl)))
theorem sc4 : FnScope N4 ["text", "start"] (defScope (top 13)) := ⟨rfl, rfl, rfl, by decide +kernel, rfl, by decide +kernel, by decide +kernel⟩
/-- read_plain -/
theorem ok4 {n : Nat} {fd : FuncData} (F : FnT K (dD "read_plain" 13) fd) (c : He.SaysD fa fn K) (cx : exs K = true) (ct : He.SaysT fa fn ts w K) (had : Had K ad) (KX : K.In base) (G : base.Ns mainGlobals mg) (hA : All P w K mg base ad n) : FnOk P w K mg base (L2.CX P w) (n + 1) (He.ga K "read_plain") fd ["text", "start"] (spOf K ad 2 (sem (n + 1) 4)) ∧ PySem.W.keepIn K (.ref (He.ga K "read_plain")) = true ∧ Binds K fd ["text", "start"] [] := by
  refine ⟨fn_body F sc4 false 1 rfl (B4 (sem n)) (by decide) fun cdv A outer s H E W hr hp tk => ?_, F.kp, F.bindsN fun _ _ _ _ _ _ us hl => match us, hl with | [_, _], _ => rfl⟩
  have nd := sc4.nd
  have hu := room65 hr
  exact (z_cons (z_if (t_cmp (o_eq (hu64 hu)) b_eq.prm (s_idx 0 hu (s_var 1) rfl (by first | exact Or.inl rfl | exact Or.inr (Or.inl rfl) | exact Or.inr (Or.inr rfl))) (s_str [39]))
    (z_cons (z_asg (s_strM PySem.F.slot_str_find PySem.F.type_str_find mt_find3 k_find3 (s_var 0) (s_cons (s_str [39]) (s_cons (s_bin o_add k_add (s_var 1) s_int) s_nil))) (g_name 2 nd))
    (z_cons (z_if (SW.pt (w_or (t_cmp o_lt k_lt (s_var 2) s_int) (w_or1 (t_not (t_truth (s_call (cal hA hr 3 rfl) tk (s_cons (s_slice (s_var 0) (o_part (s_bin o_add k_add (s_var 1) s_int)) (o_part (s_var 2))) s_nil) rfl (lenCons lenNil)))))))
    (z_one (z_raiseC 1000 had.2 (clsOk c cx KX G) tk))
    z_nil)
    (z_one (z_ret (s_tup (s_cons (s_slice (s_var 0) (o_part (s_bin o_add k_add (s_var 1) s_int)) (o_part (s_var 2))) (s_cons (s_bin o_add k_add (s_var 2) s_int) s_nil)))))))
    z_nil)
    (z_cons (z_asg (s_var 1) (g_name 2 nd))
    (z_cons (z_while hp (SW.pt (w_and (t_cmp o_lt k_lt (s_var 2) (s_lenB 0 (qf8 c KX G) rfl rfl (by first | exact Or.inl rfl | exact Or.inr (Or.inl rfl) | exact Or.inr (Or.inr rfl)))) (w_and1 (t_cmp (o_in hu) b_in.prm (s_idx 0 hu (s_var 2) rfl (by first | exact Or.inl rfl | exact Or.inr (Or.inl rfl) | exact Or.inr (Or.inr rfl))) (sgS [45, 48, 49, 50, 51, 52, 53, 54, 55, 56, 57] (qs14 c KX G))))))
    (z_one (z_aug 2 nd rfl (by first | exact Or.inl rfl | exact Or.inr rfl) ip_add s_int)))
    (z_one (z_ret (s_tup (s_cons (s_call (cal hA hr 1 rfl) tk (s_cons (s_slice (s_var 0) (o_part (s_var 1)) (o_part (s_var 2))) s_nil) rfl (lenCons lenNil)) (s_cons (s_var 2) s_nil))))))))
theorem sc5 : FnScope N5 ["text"] (defScope (top 14)) := ⟨rfl, rfl, rfl, by decide +kernel, rfl, by decide +kernel, by decide +kernel⟩
/-- read_data -/
theorem ok5 {n : Nat} {fd : FuncData} (F : FnT K (dD "read_data" 14) fd) (c : He.SaysD fa fn K) (cx : exs K = true) (ct : He.SaysT fa fn ts w K) (had : Had K ad) (KX : K.In base) (G : base.Ns mainGlobals mg) (hA : All P w K mg base ad n) : FnOk P w K mg base (L2.CX P w) (n + 1) (He.ga K "read_data") fd ["text"] (spOf K ad 1 (sem (n + 1) 5)) ∧ PySem.W.keepIn K (.ref (He.ga K "read_data")) = true ∧ Binds K fd ["text"] [] := by
  refine ⟨fn_body F sc5 false 5 rfl (B5 (sem n)) (by decide) fun cdv A outer s H E W hr hp tk => ?_, F.kp, F.bindsN fun _ _ _ _ _ _ us hl => match us, hl with | [_], _ => rfl⟩
  have nd := sc5.nd
  have hu := room65 hr
  exact (z_cons (z_asg (s_lst (s_cons (s_lst s_nil) s_nil)) (g_name 1 nd))
    (z_cons (z_asg s_int (g_name 2 nd))
    (z_cons (z_asg s_bl (g_name 3 nd))
    (z_cons (z_while hp (t_cmp o_lt k_lt (s_var 2) (s_lenB 0 (qf8 c KX G) rfl rfl (by first | exact Or.inl rfl | exact Or.inr (Or.inl rfl) | exact Or.inr (Or.inr rfl))))
    (z_one (z_if (SW.pt (w_and (t_truB 3 rfl (by first | exact Or.inl rfl | exact Or.inr (Or.inl rfl) | exact Or.inr (Or.inr rfl))) (w_and (t_cmp (o_eq (hu64 hu)) b_eq.prm (s_idx 0 hu (s_var 2) rfl (by first | exact Or.inl rfl | exact Or.inr (Or.inl rfl) | exact Or.inr (Or.inr rfl))) (s_str [40])) (w_and1 (t_cmp o_le k_le (s_lenB 1 (qf8 c KX G) rfl rfl (by first | exact Or.inl rfl | exact Or.inr (Or.inl rfl) | exact Or.inr (Or.inr rfl))) (sgI (qi15 c KX G)))))))
    (z_cons (z_expr (s_meth 1 PySem.F.slot_list_append PySem.F.type_list_append mt_append k_append rfl (by first | exact Or.inl rfl | exact Or.inr (Or.inl rfl) | exact Or.inr (Or.inr rfl)) (s_cons (s_lst s_nil) s_nil)))
    (z_one (z_aug 2 nd rfl (by first | exact Or.inl rfl | exact Or.inr rfl) ip_add s_int)))
    (z_one (z_if (SW.pt (w_and (t_cmp (o_eq (hu64 hu)) b_eq.prm (s_idx 0 hu (s_var 2) rfl (by first | exact Or.inl rfl | exact Or.inr (Or.inl rfl) | exact Or.inr (Or.inr rfl))) (s_str [41])) (w_and (t_cmp o_gt k_gt (s_lenB 1 (qf8 c KX G) rfl rfl (by first | exact Or.inl rfl | exact Or.inr (Or.inl rfl) | exact Or.inr (Or.inr rfl))) s_int) (w_and1 (SW.pt (w_or (t_not (t_truB 3 rfl (by first | exact Or.inl rfl | exact Or.inr (Or.inl rfl) | exact Or.inr (Or.inr rfl)))) (w_or1 (t_cmp (o_eq (hu64 hu)) b_eq.prm (s_idx 0 hu (s_bin op_sub k_sub (s_var 2) s_int) rfl (by first | exact Or.inl rfl | exact Or.inr (Or.inl rfl) | exact Or.inr (Or.inr rfl))) (s_str [40])))))))))
    (z_cons (z_asg (s_callT call_tuple_of k_tuple (qf12 c KX G) (s_cons (s_meth0 1 PySem.F.slot_list_pop PySem.F.type_list_pop mt_pop k_pop rfl (by first | exact Or.inl rfl | exact Or.inr (Or.inl rfl) | exact Or.inr (Or.inr rfl))) s_nil)) (g_name 4 nd))
    (z_cons (z_expr (s_methAt 1 hu PySem.F.slot_list_append PySem.F.type_list_append mt_append k_append (s_un un_neg k_neg s_int) rfl (by first | exact Or.inl rfl | exact Or.inr (Or.inl rfl) | exact Or.inr (Or.inr rfl)) (s_cons (s_var 4) s_nil)))
    (z_cons (z_aug 2 nd rfl (by first | exact Or.inl rfl | exact Or.inr rfl) ip_add s_int)
    (z_one (z_asg s_bl (g_name 3 nd))))))
    (z_one (z_if (SW.pt (w_and (t_not (t_truB 3 rfl (by first | exact Or.inl rfl | exact Or.inr (Or.inl rfl) | exact Or.inr (Or.inr rfl)))) (w_and (t_cmp o_gt k_gt (s_lenB 1 (qf8 c KX G) rfl rfl (by first | exact Or.inl rfl | exact Or.inr (Or.inl rfl) | exact Or.inr (Or.inr rfl))) s_int) (w_and1 (t_cmp (o_eq (hu64 hu)) b_eq.prm (s_slice (s_var 0) (o_part (s_var 2)) (o_part (s_bin o_add k_add (s_var 2) s_int))) (s_str [44, 32]))))))
    (z_cons (z_aug 2 nd rfl (by first | exact Or.inl rfl | exact Or.inr rfl) ip_add s_int)
    (z_one (z_asg s_bl (g_name 3 nd))))
    (z_one (z_if (SW.pt (w_and (t_truB 3 rfl (by first | exact Or.inl rfl | exact Or.inr (Or.inl rfl) | exact Or.inr (Or.inr rfl))) (w_and1 (t_cmp (o_ne (hu64 hu)) b_ne.prm (s_idx 0 hu (s_var 2) rfl (by first | exact Or.inl rfl | exact Or.inr (Or.inl rfl) | exact Or.inr (Or.inr rfl))) (s_str [40])))))
    (z_cons (z_asg (s_call (cal hA hr 4 rfl) tk (s_cons (s_var 0) (s_cons (s_var 2) s_nil)) rfl (lenCons (lenCons lenNil))) (g_tup rfl (gs_cons (g_name 5 nd) (gs_cons (g_name 2 nd) gs_nil))))
    (z_cons (z_expr (s_methAt 1 hu PySem.F.slot_list_append PySem.F.type_list_append mt_append k_append (s_un un_neg k_neg s_int) rfl (by first | exact Or.inl rfl | exact Or.inr (Or.inl rfl) | exact Or.inr (Or.inr rfl)) (s_cons (s_var 5) s_nil)))
    (z_one (z_asg s_bl (g_name 3 nd)))))
    (z_one (z_raiseC 1000 had.2 (clsOk c cx KX G) tk)))))))))))
    (z_cons (z_if (SW.pt (w_or (t_cmp (o_ne (hu64 hu)) b_ne.prm (s_lenB 1 (qf8 c KX G) rfl rfl (by first | exact Or.inl rfl | exact Or.inr (Or.inl rfl) | exact Or.inr (Or.inr rfl))) s_int) (w_or1 (t_cmp (o_ne (hu64 hu)) b_ne.prm (s_callB call_len k_len (qf8 c KX G) (s_cons (s_idx 1 hu s_int rfl (by first | exact Or.inl rfl | exact Or.inr (Or.inl rfl) | exact Or.inr (Or.inr rfl))) s_nil)) s_int))))
    (z_one (z_raiseC 1000 had.2 (clsOk c cx KX G) tk))
    z_nil)
    (z_one (z_ret (s_ix (ix_item hu) k_item (s_idx 1 hu s_int rfl (by first | exact Or.inl rfl | exact Or.inr (Or.inl rfl) | exact Or.inr (Or.inr rfl))) s_int))))))))
theorem sc6 : FnScope N6 ["script"] (defScope (top 16)) := ⟨rfl, rfl, rfl, by decide +kernel, rfl, by decide +kernel, by decide +kernel⟩
/-- _law_start -/
theorem ok6 {n : Nat} {fd : FuncData} (F : FnT K (dD "_law_start" 16) fd) (c : He.SaysD fa fn K) (cx : exs K = true) (ct : He.SaysT fa fn ts w K) (had : Had K ad) (KX : K.In base) (G : base.Ns mainGlobals mg) (hA : All P w K mg base ad n) : FnOk P w K mg base (L2.CX P w) (n + 1) (He.ga K "_law_start") fd ["script"] (spOf K ad 1 (sem (n + 1) 6)) ∧ PySem.W.keepIn K (.ref (He.ga K "_law_start")) = true ∧ Binds K fd ["script"] [] := by
  refine ⟨fn_body F sc6 false 0 rfl (B6 (sem n)) (by decide) fun cdv A outer s H E W hr hp tk => ?_, F.kp, F.bindsN fun _ _ _ _ _ _ us hl => match us, hl with | [_], _ => rfl⟩
  have nd := sc6.nd
  have hu := room65 hr
  exact (z_one (z_ret (s_lst (s_cons (s_callT call_list_of k_listF (qf16 c KX G) (s_cons (s_var 0) s_nil)) (s_cons s_int (s_cons s_int (s_cons s_int s_nil)))))))
theorem sc7 : FnScope N7 ["state", "most"] (defScope (top 17)) := ⟨rfl, rfl, rfl, by decide +kernel, rfl, by decide +kernel, by decide +kernel⟩
/-- _law_draw -/
theorem ok7 {n : Nat} {fd : FuncData} (F : FnT K (dD "_law_draw" 17) fd) (c : He.SaysD fa fn K) (cx : exs K = true) (ct : He.SaysT fa fn ts w K) (had : Had K ad) (KX : K.In base) (G : base.Ns mainGlobals mg) (hA : All P w K mg base ad n) : FnOk P w K mg base (L2.CX P w) (n + 1) (He.ga K "_law_draw") fd ["state", "most"] (spOf K ad 2 (sem (n + 1) 7)) ∧ PySem.W.keepIn K (.ref (He.ga K "_law_draw")) = true ∧ Binds K fd ["state", "most"] [] := by
  refine ⟨fn_body F sc7 true 3 rfl (B7 (sem n)) (by decide) fun cdv A outer s H E W hr hp tk => ?_, F.kp, F.bindsN fun _ _ _ _ _ _ us hl => match us, hl with | [_, _], _ => rfl⟩
  have nd := sc7.nd
  have hu := room65 hr
  exact (z_cons (z_asg (s_bin o_add k_add (s_idx 0 hu s_int rfl (by first | exact Or.inl rfl | exact Or.inr (Or.inl rfl) | exact Or.inr (Or.inr rfl))) s_int) (g_sub 0 hu s_int rfl (by first | exact Or.inl rfl | exact Or.inr (Or.inl rfl) | exact Or.inr (Or.inr rfl))))
    (z_cons (z_if (t_cmp o_gt k_gt (s_idx 0 hu s_int rfl (by first | exact Or.inl rfl | exact Or.inr (Or.inl rfl) | exact Or.inr (Or.inr rfl))) s_int)
    (z_cons (z_asg (s_bin op_mod k_mod (s_callT c_int k_int (qf9 c KX G) (s_cons (s_idx 0 hu s_int rfl (by first | exact Or.inl rfl | exact Or.inr (Or.inl rfl) | exact Or.inr (Or.inr rfl))) s_nil)) (s_var 1)) (g_name 2 nd))
    (z_cons (z_asg (s_bin op_fdiv k_div (s_idx 0 hu s_int rfl (by first | exact Or.inl rfl | exact Or.inr (Or.inl rfl) | exact Or.inr (Or.inr rfl))) (s_var 1)) (g_sub 0 hu s_int rfl (by first | exact Or.inl rfl | exact Or.inr (Or.inl rfl) | exact Or.inr (Or.inr rfl))))
    (z_one (z_ret (s_var 2)))))
    z_nil)
    (z_cons (z_asg s_int (g_name 3 nd))
    (z_cons (z_if (t_cmp o_gt k_gt (s_callB call_len k_len (qf8 c KX G) (s_cons (s_idx 0 hu s_int rfl (by first | exact Or.inl rfl | exact Or.inr (Or.inl rfl) | exact Or.inr (Or.inr rfl))) s_nil)) s_int)
    (z_one (z_asg (s_callB call_abs k_abs (qf17 c KX G) (s_cons (s_ix (ix_item hu) k_item (s_idx 0 hu s_int rfl (by first | exact Or.inl rfl | exact Or.inr (Or.inl rfl) | exact Or.inr (Or.inr rfl))) (s_bin op_mod k_mod (s_callT c_int k_int (qf9 c KX G) (s_cons (s_idx 0 hu s_int rfl (by first | exact Or.inl rfl | exact Or.inr (Or.inl rfl) | exact Or.inr (Or.inr rfl))) s_nil)) (s_callB call_len k_len (qf8 c KX G) (s_cons (s_idx 0 hu s_int rfl (by first | exact Or.inl rfl | exact Or.inr (Or.inl rfl) | exact Or.inr (Or.inr rfl))) s_nil)))) s_nil)) (g_name 3 nd)))
    z_nil)
    (z_cons (z_asg (s_bin o_add k_add (s_idx 0 hu s_int rfl (by first | exact Or.inl rfl | exact Or.inr (Or.inl rfl) | exact Or.inr (Or.inr rfl))) s_int) (g_sub 0 hu s_int rfl (by first | exact Or.inl rfl | exact Or.inr (Or.inl rfl) | exact Or.inr (Or.inr rfl))))
    (z_cons (z_if (t_cmp o_ge k_ge (s_var 3) (s_bin op_pow k_pow s_int s_int))
    (z_cons (z_asg (s_bin op_fdiv k_div (s_var 3) (s_var 1)) (g_sub 0 hu s_int rfl (by first | exact Or.inl rfl | exact Or.inr (Or.inl rfl) | exact Or.inr (Or.inr rfl))))
    (z_one (z_ret (s_bin op_mod k_mod (s_callT c_int k_int (qf9 c KX G) (s_cons (s_var 3) s_nil)) (s_var 1)))))
    z_nil)
    (z_cons (z_asg (s_bin op_mod k_mod (s_callT c_int k_int (qf9 c KX G) (s_cons (s_bin o_add k_add (s_bin op_mulW k_mulI (s_bin o_add k_add (s_var 3) s_int) s_int) (s_bin op_mulW k_mulI (s_idx 0 hu s_int rfl (by first | exact Or.inl rfl | exact Or.inr (Or.inl rfl) | exact Or.inr (Or.inr rfl))) s_int)) s_nil)) s_int) (g_name 4 nd))
    (z_cons (z_asg (s_bin op_mod k_mod (s_callT c_int k_int (qf9 c KX G) (s_cons (s_bin o_add k_add (s_bin o_add k_add (s_bin op_mulW k_mulI (s_var 4) s_int) (s_bin op_fdiv k_div (s_var 3) s_int)) (s_idx 0 hu s_int rfl (by first | exact Or.inl rfl | exact Or.inr (Or.inl rfl) | exact Or.inr (Or.inr rfl)))) s_nil)) s_int) (g_name 4 nd))
    (z_one (z_ret (s_bin op_mod k_mod (s_bin op_fdiv k_div (s_var 4) s_int) (s_var 1))))))))))))
theorem sc8 : FnScope N8 ["state", "items"] (defScope (top 18)) := ⟨rfl, rfl, rfl, by decide +kernel, rfl, by decide +kernel, by decide +kernel⟩
/-- _law_one_of -/
theorem ok8 {n : Nat} {fd : FuncData} (F : FnT K (dD "_law_one_of" 18) fd) (c : He.SaysD fa fn K) (cx : exs K = true) (ct : He.SaysT fa fn ts w K) (had : Had K ad) (KX : K.In base) (G : base.Ns mainGlobals mg) (hA : All P w K mg base ad n) : FnOk P w K mg base (L2.CX P w) (n + 1) (He.ga K "_law_one_of") fd ["state", "items"] (spOf K ad 2 (sem (n + 1) 8)) ∧ PySem.W.keepIn K (.ref (He.ga K "_law_one_of")) = true ∧ Binds K fd ["state", "items"] [] := by
  refine ⟨fn_body F sc8 true 0 rfl (B8 (sem n)) (by decide) fun cdv A outer s H E W hr hp tk => ?_, F.kp, F.bindsN fun _ _ _ _ _ _ us hl => match us, hl with | [_, _], _ => rfl⟩
  have nd := sc8.nd
  have hu := room65 hr
  exact (z_one (z_ret (s_idx 1 hu (s_callS 0 (cal hA hr 7 rfl) tk rfl (by first | exact Or.inl rfl | exact Or.inr (Or.inl rfl) | exact Or.inr (Or.inr rfl)) (s_cons (s_lenB 1 (qf8 c KX G) rfl rfl (by first | exact Or.inl rfl | exact Or.inr (Or.inl rfl) | exact Or.inr (Or.inr rfl))) s_nil) rfl (lenCons lenNil)) rfl (by first | exact Or.inl rfl | exact Or.inr (Or.inl rfl) | exact Or.inr (Or.inr rfl)))))
theorem sc9 : FnScope N9 ["x"] (defScope (top 19)) := ⟨rfl, rfl, rfl, by decide +kernel, rfl, by decide +kernel, by decide +kernel⟩
/-- _law_is_int -/
theorem ok9 {n : Nat} {fd : FuncData} (F : FnT K (dD "_law_is_int" 19) fd) (c : He.SaysD fa fn K) (cx : exs K = true) (ct : He.SaysT fa fn ts w K) (had : Had K ad) (KX : K.In base) (G : base.Ns mainGlobals mg) (hA : All P w K mg base ad n) : FnOk P w K mg base (L2.CX P w) (n + 1) (He.ga K "_law_is_int") fd ["x"] (spOf K ad 1 (sem (n + 1) 9)) ∧ PySem.W.keepIn K (.ref (He.ga K "_law_is_int")) = true ∧ Binds K fd ["x"] [] := by
  refine ⟨fn_body F sc9 false 0 rfl (B9 (sem n)) (by decide) fun cdv A outer s H E W hr hp tk => ?_, F.kp, F.bindsN fun _ _ _ _ _ _ us hl => match us, hl with | [_], _ => rfl⟩
  have nd := sc9.nd
  have hu := room65 hr
  exact (z_one (z_ret (s_and (s_isi (T' := "int") (by decide) (qf11 c KX G) (qf9 c KX G) (by decide +kernel) (s_var 0)) (s_one (s_not (s_isi (T' := "bool") (by decide) (qf11 c KX G) (qf18 c KX G) (by decide +kernel) (s_var 0)))))))
theorem sc10 : FnScope N10 ["x", "y"] (defScope (top 20)) := ⟨rfl, rfl, rfl, by decide +kernel, rfl, by decide +kernel, by decide +kernel⟩
/-- _law_same -/
theorem ok10 {n : Nat} {fd : FuncData} (F : FnT K (dD "_law_same" 20) fd) (c : He.SaysD fa fn K) (cx : exs K = true) (ct : He.SaysT fa fn ts w K) (had : Had K ad) (KX : K.In base) (G : base.Ns mainGlobals mg) (hA : All P w K mg base ad n) : FnOk P w K mg base (L2.CX P w) (n + 1) (He.ga K "_law_same") fd ["x", "y"] (spOf K ad 2 (sem (n + 1) 10)) ∧ PySem.W.keepIn K (.ref (He.ga K "_law_same")) = true ∧ Binds K fd ["x", "y"] [] := by
  refine ⟨fn_body F sc10 false 1 rfl (B10 (sem n)) (by decide) fun cdv A outer s H E W hr hp tk => ?_, F.kp, F.bindsN fun _ _ _ _ _ _ us hl => match us, hl with | [_, _], _ => rfl⟩
  have nd := sc10.nd
  have hu := room65 hr
  exact (z_cons (z_if (t_truth (s_isi (T' := "tuple") (by decide) (qf11 c KX G) (qf12 c KX G) (by decide +kernel) (s_var 1)))
    (z_cons (z_if (SW.pt (w_or (t_not (t_truth (s_isi (T' := "tuple") (by decide) (qf11 c KX G) (qf12 c KX G) (by decide +kernel) (s_var 0)))) (w_or1 (t_cmp (o_ne (hu64 hu)) b_ne.prm (s_lenB 0 (qf8 c KX G) rfl rfl (by first | exact Or.inl rfl | exact Or.inr (Or.inl rfl) | exact Or.inr (Or.inr rfl))) (s_lenB 1 (qf8 c KX G) rfl rfl (by first | exact Or.inl rfl | exact Or.inr (Or.inl rfl) | exact Or.inr (Or.inr rfl)))))))
    (z_one (z_ret s_bl))
    z_nil)
    (z_one (z_ret (s_callB (cr_all rfl) k_all (qf19 c KX G) (s_cons (s_comp rfl nd [("k", 2)] (i_range1 (qf10 c KX G) (s_cons (s_lenB 1 (qf8 c KX G) rfl rfl (by first | exact Or.inl rfl | exact Or.inr (Or.inl rfl) | exact Or.inr (Or.inr rfl))) s_nil)) (fun _ _ _ _ _ => (g_name 2 nd)) (fun _ _ _ _ _ => c_yes) (fun _ _ _ _ _ => (s_call (cal hA hr 10 rfl) tk0 (s_cons (s_idx 0 hu (s_var 2) rfl (by first | exact Or.inl rfl | exact Or.inr (Or.inl rfl) | exact Or.inr (Or.inr rfl))) (s_cons (s_idx 1 hu (s_var 2) rfl (by first | exact Or.inl rfl | exact Or.inr (Or.inl rfl) | exact Or.inr (Or.inr rfl))) s_nil)) rfl (lenCons (lenCons lenNil)))) (blkOk_by (by show blkC N10 (defScope (top 20)) _ _ = true; decide +kernel))) s_nil)))))
    z_nil)
    (z_cons (z_if (t_truth (s_isi (T' := "str") (by decide) (qf11 c KX G) (qf2 c KX G) (by decide +kernel) (s_var 1)))
    (z_one (z_ret (s_and (s_isi (T' := "str") (by decide) (qf11 c KX G) (qf2 c KX G) (by decide +kernel) (s_var 0)) (s_one (s_cmp (o_eq (hu64 hu)) b_eq.prm (s_var 0) (s_var 1))))))
    z_nil)
    (z_one (z_ret (s_and (s_call (cal hA hr 9 rfl) tk (s_cons (s_var 0) s_nil) rfl (lenCons lenNil)) (s_one (s_cmp (o_eq (hu64 hu)) b_eq.prm (s_var 0) (s_var 1))))))))
theorem sc11 : FnScope N11 ["state"] (defScope (top 21)) := ⟨rfl, rfl, rfl, by decide +kernel, rfl, by decide +kernel, by decide +kernel⟩
/-- _law_integer_drawn -/
theorem ok11 {n : Nat} {fd : FuncData} (F : FnT K (dD "_law_integer_drawn" 21) fd) (c : He.SaysD fa fn K) (cx : exs K = true) (ct : He.SaysT fa fn ts w K) (had : Had K ad) (KX : K.In base) (G : base.Ns mainGlobals mg) (hA : All P w K mg base ad n) : FnOk P w K mg base (L2.CX P w) (n + 1) (He.ga K "_law_integer_drawn") fd ["state"] (spOf K ad 1 (sem (n + 1) 11)) ∧ PySem.W.keepIn K (.ref (He.ga K "_law_integer_drawn")) = true ∧ Binds K fd ["state"] [] := by
  refine ⟨fn_body F sc11 true 6 rfl (B11 (sem n)) (by decide) fun cdv A outer s H E W hr hp tk => ?_, F.kp, F.bindsN fun _ _ _ _ _ _ us hl => match us, hl with | [_], _ => rfl⟩
  have nd := sc11.nd
  have hu := room65 hr
  exact (z_cons (z_asg (s_ix (ix_item hu) k_item (s_lst (s_cons s_int (s_cons s_int (s_cons s_int (s_cons s_int (s_cons s_int (s_cons s_int (s_cons (s_bin o_add k_add s_int (s_callS 0 (cal hA hr 7 rfl) tk rfl (by first | exact Or.inl rfl | exact Or.inr (Or.inl rfl) | exact Or.inr (Or.inr rfl)) (s_cons s_int s_nil) rfl (lenCons lenNil))) s_nil)))))))) (s_callS 0 (cal hA hr 7 rfl) tk rfl (by first | exact Or.inl rfl | exact Or.inr (Or.inl rfl) | exact Or.inr (Or.inr rfl)) (s_cons s_int s_nil) rfl (lenCons lenNil))) (g_name 1 nd))
    (z_cons (z_asg (s_callS 0 (cal hA hr 7 rfl) tk rfl (by first | exact Or.inl rfl | exact Or.inr (Or.inl rfl) | exact Or.inr (Or.inr rfl)) (s_cons s_int s_nil) rfl (lenCons lenNil)) (g_name 2 nd))
    (z_cons (z_asg (s_str []) (g_name 3 nd))
    (z_cons (z_asg s_int (g_name 4 nd))
    (z_cons (z_for hp rfl (i_range1 (qf10 c KX G) (s_cons (s_var 1) s_nil)) (g_name 5 nd)
    (z_cons (z_asg (s_callS 0 (cal hA hr 7 rfl) tk rfl (by first | exact Or.inl rfl | exact Or.inr (Or.inl rfl) | exact Or.inr (Or.inr rfl)) (s_cons s_int s_nil) rfl (lenCons lenNil)) (g_name 6 nd))
    (z_cons (z_if (t_cmp (o_eq (hu64 hu)) b_eq.prm (s_var 2) s_int)
    (z_one (z_asg s_int (g_name 6 nd)))
    (z_one (z_if (t_cmp (o_eq (hu64 hu)) b_eq.prm (s_var 2) s_int)
    (z_one (z_asg (s_callT c_int k_int (qf9 c KX G) (s_cons (s_cmp (o_eq (hu64 hu)) b_eq.prm (s_var 5) s_int) s_nil)) (g_name 6 nd)))
    z_nil)))
    (z_cons (z_if (SW.pt (w_and (t_cmp (o_eq (hu64 hu)) b_eq.prm (s_var 5) s_int) (w_and1 (t_cmp (o_eq (hu64 hu)) b_eq.prm (s_var 6) s_int))))
    (z_one (z_asg (s_callT c_int k_int (qf9 c KX G) (s_cons (s_cmp o_gt k_gt (s_var 1) s_int) s_nil)) (g_name 6 nd)))
    z_nil)
    (z_cons (z_asg (s_bin o_add k_add (s_var 3) (s_ix (ix_item hu) k_item (s_str [48, 49, 50, 51, 52, 53, 54, 55, 56, 57]) (s_var 6))) (g_name 3 nd))
    (z_one (z_asg (s_bin o_add k_add (s_bin op_mulW k_mulI s_int (s_var 4)) (s_var 6)) (g_name 4 nd))))))))
    (z_cons (z_if (SW.pt (w_and (t_cmp o_gt k_gt (s_var 4) s_int) (w_and1 (t_cmp (o_eq (hu64 hu)) b_eq.prm (s_callS 0 (cal hA hr 7 rfl) tk rfl (by first | exact Or.inl rfl | exact Or.inr (Or.inl rfl) | exact Or.inr (Or.inr rfl)) (s_cons s_int s_nil) rfl (lenCons lenNil)) s_int))))
    (z_one (z_ret (s_tup (s_cons (s_un un_neg k_neg (s_var 4)) (s_cons (s_bin o_add k_add (s_str [45]) (s_var 3)) s_nil)))))
    z_nil)
    (z_one (z_ret (s_tup (s_cons (s_var 4) (s_cons (s_var 3) s_nil)))))))))))
theorem sc12 : FnScope N12 ["state"] (defScope (top 22)) := ⟨rfl, rfl, rfl, by decide +kernel, rfl, by decide +kernel, by decide +kernel⟩
/-- _law_text_drawn -/
theorem ok12 {n : Nat} {fd : FuncData} (F : FnT K (dD "_law_text_drawn" 22) fd) (c : He.SaysD fa fn K) (cx : exs K = true) (ct : He.SaysT fa fn ts w K) (had : Had K ad) (KX : K.In base) (G : base.Ns mainGlobals mg) (hA : All P w K mg base ad n) : FnOk P w K mg base (L2.CX P w) (n + 1) (He.ga K "_law_text_drawn") fd ["state"] (spOf K ad 1 (sem (n + 1) 12)) ∧ PySem.W.keepIn K (.ref (He.ga K "_law_text_drawn")) = true ∧ Binds K fd ["state"] [] := by
  refine ⟨fn_body F sc12 true 3 rfl (B12 (sem n)) (by decide) fun cdv A outer s H E W hr hp tk => ?_, F.kp, F.bindsN fun _ _ _ _ _ _ us hl => match us, hl with | [_], _ => rfl⟩
  have nd := sc12.nd
  have hu := room65 hr
  exact (z_cons (z_asg (s_str [32, 33, 35, 36, 38, 40, 41, 42, 43, 44, 45, 46, 47, 48, 49, 57, 58, 59, 60, 61, 62, 63, 64, 65, 90, 91, 93, 94, 95, 97, 122, 123, 124, 125, 126]) (g_name 1 nd))
    (z_cons (z_asg (s_strM PySem.F.slot_str_join PySem.F.type_str_join mt_join k_join (s_str []) (s_cons (s_comp rfl nd [("k", 3)] (i_range1 (qf10 c KX G) (s_cons (s_callS 0 (cal hA hr 7 rfl) tk rfl (by first | exact Or.inl rfl | exact Or.inr (Or.inl rfl) | exact Or.inr (Or.inr rfl)) (s_cons s_int s_nil) rfl (lenCons lenNil)) s_nil)) (fun _ _ _ _ _ => (g_name 3 nd)) (fun _ _ _ _ _ => c_yes) (fun _ _ _ _ _ => (s_callS 0 (cal hA hr 8 rfl) tk0 rfl (by first | exact Or.inl rfl | exact Or.inr (Or.inl rfl) | exact Or.inr (Or.inr rfl)) (s_cons (s_var 1) s_nil) rfl (lenCons lenNil))) (blkOk_by (by show blkC N12 (defScope (top 22)) _ _ = true; decide +kernel))) s_nil)) (g_name 2 nd))
    (z_one (z_ret (s_tup (s_cons (s_var 2) (s_cons (s_bin o_add k_add (s_bin o_add k_add (s_str [39]) (s_var 2)) (s_str [39])) s_nil)))))))
theorem sc13 : FnScope N13 ["state", "depth"] (defScope (top 23)) := ⟨rfl, rfl, rfl, by decide +kernel, rfl, by decide +kernel, by decide +kernel⟩
/-- _law_datum_drawn -/
theorem ok13 {n : Nat} {fd : FuncData} (F : FnT K (dD "_law_datum_drawn" 23) fd) (c : He.SaysD fa fn K) (cx : exs K = true) (ct : He.SaysT fa fn ts w K) (had : Had K ad) (KX : K.In base) (G : base.Ns mainGlobals mg) (hA : All P w K mg base ad n) : FnOk P w K mg base (L2.CX P w) (n + 1) (He.ga K "_law_datum_drawn") fd ["state", "depth"] (spOf K ad 2 (sem (n + 1) 13)) ∧ PySem.W.keepIn K (.ref (He.ga K "_law_datum_drawn")) = true ∧ Binds K fd ["state", "depth"] [] := by
  refine ⟨fn_body F sc13 true 5 rfl (B13 (sem n)) (by decide) fun cdv A outer s H E W hr hp tk => ?_, F.kp, F.bindsN fun _ _ _ _ _ _ us hl => match us, hl with | [_, _], _ => rfl⟩
  have nd := sc13.nd
  have hu := room65 hr
  exact (z_cons (z_asg (s_callS 0 (cal hA hr 7 rfl) tk rfl (by first | exact Or.inl rfl | exact Or.inr (Or.inl rfl) | exact Or.inr (Or.inr rfl)) (s_cons s_int s_nil) rfl (lenCons lenNil)) (g_name 2 nd))
    (z_cons (z_if (SW.pt (w_or (t_cmp (o_eq (hu64 hu)) b_eq.prm (s_var 1) s_int) (w_or1 (t_cmp (o_eq (hu64 hu)) b_eq.prm (s_var 2) s_int))))
    (z_one (z_ret (s_callS 0 (cal hA hr 11 rfl) tk rfl (by first | exact Or.inl rfl | exact Or.inr (Or.inl rfl) | exact Or.inr (Or.inr rfl)) s_nil rfl lenNil)))
    z_nil)
    (z_cons (z_if (t_cmp (o_eq (hu64 hu)) b_eq.prm (s_var 2) s_int)
    (z_one (z_ret (s_callS 0 (cal hA hr 12 rfl) tk rfl (by first | exact Or.inl rfl | exact Or.inr (Or.inl rfl) | exact Or.inr (Or.inr rfl)) s_nil rfl lenNil)))
    z_nil)
    (z_cons (z_comp rfl nd [("k", 4)] (i_range1 (qf10 c KX G) (s_cons (s_callS 0 (cal hA hr 7 rfl) tk rfl (by first | exact Or.inl rfl | exact Or.inr (Or.inl rfl) | exact Or.inr (Or.inr rfl)) (s_cons s_int s_nil) rfl (lenCons lenNil)) s_nil)) (fun _ _ _ _ _ => (g_name 4 nd)) (fun _ _ _ _ _ => c_yes) (fun _ _ _ _ _ => (s_callS 0 (cal hA hr 13 rfl) tk0 rfl (by first | exact Or.inl rfl | exact Or.inr (Or.inl rfl) | exact Or.inr (Or.inr rfl)) (s_cons (s_bin op_sub k_sub (s_var 1) s_int) s_nil) rfl (lenCons lenNil))) rfl rfl (blkOk_by (by show blkC N13 (defScope (top 23)) _ _ = true; decide +kernel)) (sw_true rfl rfl rfl rfl))
    (z_one (z_ret (s_tup (s_cons (s_callT call_tuple_of k_tuple (qf12 c KX G) (s_cons (s_comp rfl nd [("datum", 5), ("text", 6)] (i_val (s_var 3)) (fun _ _ _ _ _ => (g_tup rfl (gs_cons (g_name 5 nd) (gs_cons (g_name 6 nd) gs_nil)))) (fun _ _ _ _ _ => c_yes) (fun _ _ _ _ _ => (s_var 5)) (blkOk_by (by show blkC N13 (defScope (top 23)) _ _ = true; decide +kernel))) s_nil)) (s_cons (s_bin o_add k_add (s_bin o_add k_add (s_str [40]) (s_strM PySem.F.slot_str_join PySem.F.type_str_join mt_join k_join (s_str [44, 32]) (s_cons (s_comp rfl nd [("datum", 5), ("text", 6)] (i_val (s_var 3)) (fun _ _ _ _ _ => (g_tup rfl (gs_cons (g_name 5 nd) (gs_cons (g_name 6 nd) gs_nil)))) (fun _ _ _ _ _ => c_yes) (fun _ _ _ _ _ => (s_var 6)) (blkOk_by (by show blkC N13 (defScope (top 23)) _ _ = true; decide +kernel))) s_nil))) (s_str [41])) s_nil)))))))))
theorem sc14 : FnScope N14 ["read", "text"] (defScope (top 24)) := ⟨rfl, rfl, rfl, by decide +kernel, rfl, by decide +kernel, by decide +kernel⟩
/-- _law_is_refused -/
theorem ok14 {n : Nat} {fd : FuncData} (F : FnT K (dD "_law_is_refused" 24) fd) (c : He.SaysD fa fn K) (cx : exs K = true) (ct : He.SaysT fa fn ts w K) (had : Had K ad) (KX : K.In base) (G : base.Ns mainGlobals mg) (hA : All P w K mg base ad n) : FnOk P w K mg base (L2.CX P w) (n + 1) (He.ga K "_law_is_refused") fd ["read", "text"] (spOf K ad 2 (sem (n + 1) 14)) ∧ PySem.W.keepIn K (.ref (He.ga K "_law_is_refused")) = true ∧ Binds K fd ["read", "text"] [] := by
  refine ⟨fn_body F sc14 false 1 rfl (B14 (sem n)) (by decide) fun cdv A outer s H E W hr hp tk => ?_, F.kp, F.bindsN fun _ _ _ _ _ _ us hl => match us, hl with | [_, _], _ => rfl⟩
  have nd := sc14.nd
  have hu := room65 hr
  exact (z_cons (z_tryIs 1000 2 had.2 (clsOk c cx KX G) (qf11 c KX G) rfl rfl nd rfl rfl tk (fun W pn xe tk => (z_one (z_expr (s_callV (cs := [1, 5]) (G := sem n) 0 (fun j hj => by rcases (show j = 1 ∨ j = 5 by simpa using hj) with rfl | rfl <;> first | exact calv hA had hr 1 rfl | exact calv hA had hr 5 rfl) tk rfl (by first | exact Or.inl rfl | exact Or.inr (Or.inl rfl) | exact Or.inr (Or.inr rfl)) (s_cons (s_var 1) s_nil) rfl (lenCons lenNil))))) (by first | exact Or.inl rfl | exact Or.inr (Or.inl rfl) | exact Or.inr (Or.inr rfl)))
    (z_one (z_ret s_bl)))
theorem sc15 : FnScope N15 ["text"] (defScope (top 25)) := ⟨rfl, rfl, rfl, by decide +kernel, rfl, by decide +kernel, by decide +kernel⟩
/-- _law_bad_integers -/
theorem ok15 {n : Nat} {fd : FuncData} (F : FnT K (dD "_law_bad_integers" 25) fd) (c : He.SaysD fa fn K) (cx : exs K = true) (ct : He.SaysT fa fn ts w K) (had : Had K ad) (KX : K.In base) (G : base.Ns mainGlobals mg) (hA : All P w K mg base ad n) : FnOk P w K mg base (L2.CX P w) (n + 1) (He.ga K "_law_bad_integers") fd ["text"] (spOf K ad 1 (sem (n + 1) 15)) ∧ PySem.W.keepIn K (.ref (He.ga K "_law_bad_integers")) = true ∧ Binds K fd ["text"] [] := by
  refine ⟨fn_body F sc15 false 1 rfl (B15 (sem n)) (by decide) fun cdv A outer s H E W hr hp tk => ?_, F.kp, F.bindsN fun _ _ _ _ _ _ us hl => match us, hl with | [_], _ => rfl⟩
  have nd := sc15.nd
  have hu := room65 hr
  exact (z_cons (z_asg (s_lst (s_cons (s_str []) (s_cons (s_str [45]) (s_cons (s_str [45, 48]) (s_cons (s_bin o_add k_add (s_str [43]) (s_var 0)) (s_cons (s_bin o_add k_add (s_str [32]) (s_var 0)) (s_cons (s_bin o_add k_add (s_var 0) (s_str [32])) (s_cons (s_str [48, 48]) (s_cons (s_bin o_add k_add (s_str [48]) (s_var 0)) (s_cons (s_str [45, 45, 49]) (s_cons (s_str [49, 45]) (s_cons (s_bin o_add k_add (s_var 0) (s_str [120])) (s_cons (s_str [97]) (s_cons (s_str [40, 41]) s_nil)))))))))))))) (g_name 1 nd))
    (z_one (z_ret (s_bin o_add k_add (s_var 1) (s_lst (s_cons (s_bin o_add k_add (s_var 0) (s_str [46, 48])) (s_cons (s_str [49, 32, 50]) (s_cons (s_str [49, 44, 50]) (s_cons (s_str [39, 49, 39]) (s_cons (s_str [40, 49, 41]) (s_cons (s_str [48, 120, 49]) (s_cons (s_str [49, 95, 48]) s_nil))))))))))))
theorem sc16 : FnScope N16 ["state", "text"] (defScope (top 26)) := ⟨rfl, rfl, rfl, by decide +kernel, rfl, by decide +kernel, by decide +kernel⟩
/-- _law_bad_data -/
theorem ok16 {n : Nat} {fd : FuncData} (F : FnT K (dD "_law_bad_data" 26) fd) (c : He.SaysD fa fn K) (cx : exs K = true) (ct : He.SaysT fa fn ts w K) (had : Had K ad) (KX : K.In base) (G : base.Ns mainGlobals mg) (hA : All P w K mg base ad n) : FnOk P w K mg base (L2.CX P w) (n + 1) (He.ga K "_law_bad_data") fd ["state", "text"] (spOf K ad 2 (sem (n + 1) 16)) ∧ PySem.W.keepIn K (.ref (He.ga K "_law_bad_data")) = true ∧ Binds K fd ["state", "text"] [] := by
  refine ⟨fn_body F sc16 true 2 rfl (B16 (sem n)) (by decide) fun cdv A outer s H E W hr hp tk => ?_, F.kp, F.bindsN fun _ _ _ _ _ _ us hl => match us, hl with | [_, _], _ => rfl⟩
  have nd := sc16.nd
  have hu := room65 hr
  exact (z_cons (z_asg (s_callS 0 (cal hA hr 7 rfl) tk rfl (by first | exact Or.inl rfl | exact Or.inr (Or.inl rfl) | exact Or.inr (Or.inr rfl)) (s_cons (s_bin o_add k_add (s_lenB 1 (qf8 c KX G) rfl rfl (by first | exact Or.inl rfl | exact Or.inr (Or.inl rfl) | exact Or.inr (Or.inr rfl))) s_int) s_nil) rfl (lenCons lenNil)) (g_name 2 nd))
    (z_cons (z_asg (s_lst (s_cons (s_str []) (s_cons (s_str [32]) (s_cons (s_str [40]) (s_cons (s_str [41]) (s_cons (s_bin o_add k_add (s_var 1) (s_str [32])) (s_cons (s_bin o_add k_add (s_str [32]) (s_var 1)) (s_cons (s_bin o_add k_add (s_var 1) (s_str [41])) (s_cons (s_bin o_add k_add (s_str [40]) (s_var 1)) (s_cons (s_bin o_add k_add (s_bin o_add k_add (s_var 1) (s_str [44, 32])) (s_var 1)) (s_cons (s_str [39]) (s_cons (s_str [39, 97]) (s_cons (s_str [97, 39]) (s_cons (s_str [122, 122]) s_nil)))))))))))))) (g_name 3 nd))
    (z_cons (z_asg (s_bin o_add k_add (s_var 3) (s_lst (s_cons (s_str [40, 49, 44, 50, 41]) (s_cons (s_str [40, 49, 44, 32, 32, 50, 41]) (s_cons (s_str [40, 49, 32, 44, 32, 50, 41]) (s_cons (s_str [40, 32, 49, 41]) (s_cons (s_str [40, 49, 32, 41]) (s_cons (s_str [40, 49, 44, 32, 41]) (s_cons (s_str [40, 44, 32, 49, 41]) (s_cons (s_str [40, 49, 44, 41]) (s_cons (s_str [40, 39, 97, 39, 39, 98, 39, 41]) (s_cons (s_str [40, 48, 49, 41]) (s_cons (s_str [40, 45, 48, 41]) s_nil))))))))))))) (g_name 3 nd))
    (z_one (z_ret (s_bin o_add k_add (s_var 3) (s_lst (s_cons (s_str [91, 49, 93]) (s_cons (s_str [40, 49, 59, 32, 50, 41]) (s_cons (s_bin o_add k_add (s_bin o_add k_add (s_str [39, 97]) (s_str [10])) (s_str [98, 39])) (s_cons (s_bin o_add k_add (s_var 1) (s_str [10])) (s_cons (s_str [40, 39, 97, 41]) (s_cons (s_str [40, 40, 49, 44, 32, 50, 41]) (s_cons (s_str [40, 49, 44, 32, 50, 41, 41]) (s_cons (s_bin o_add k_add (s_bin o_add k_add (s_slice (s_var 1) o_no (o_part (s_var 2))) (s_str [10])) (s_slice (s_var 1) (o_part (s_var 2)) o_no)) s_nil)))))))))))))))
theorem sc17 : FnScope N17 ["script"] (defScope (top 27)) := ⟨rfl, rfl, rfl, by decide +kernel, rfl, by decide +kernel, by decide +kernel⟩
/-- law -/
theorem ok17 {n : Nat} {fd : FuncData} (F : FnT K (dD "law" 27) fd) (c : He.SaysD fa fn K) (cx : exs K = true) (ct : He.SaysT fa fn ts w K) (had : Had K ad) (KX : K.In base) (G : base.Ns mainGlobals mg) (hA : All P w K mg base ad n) : FnOk P w K mg base (L2.CX P w) (n + 1) (He.ga K "law") fd ["script"] (spOf K ad 1 (sem (n + 1) 17)) ∧ PySem.W.keepIn K (.ref (He.ga K "law")) = true ∧ Binds K fd ["script"] [] := by
  refine ⟨fn_body F sc17 false 9 rfl (B17 (sem n)) (by decide) fun cdv A outer s H E W hr hp tk => ?_, F.kp, F.bindsN fun _ _ _ _ _ _ us hl => match us, hl with | [_], _ => rfl⟩
  have nd := sc17.nd
  have hu := room65 hr
  exact (z_cons (z_asg (s_call (cal hA hr 6 rfl) tk (s_cons (s_var 0) s_nil) rfl (lenCons lenNil)) (g_name 1 nd))
    (z_cons (z_for hp rfl (i_range1 (qf10 c KX G) (s_cons s_int s_nil)) (g_name 2 nd)
    (z_cons (z_asg (s_callS 1 (cal hA hr 11 rfl) tk rfl (by first | exact Or.inl rfl | exact Or.inr (Or.inl rfl) | exact Or.inr (Or.inr rfl)) s_nil rfl lenNil) (g_tup rfl (gs_cons (g_name 3 nd) (gs_cons (g_name 4 nd) gs_nil))))
    (z_cons (z_if (SW.pt (w_or (t_not (t_truth (s_call (cal hA hr 10 rfl) tk (s_cons (s_call (cal hA hr 0 rfl) tk (s_cons (s_var 3) s_nil) rfl (lenCons lenNil)) (s_cons (s_var 4) s_nil)) rfl (lenCons (lenCons lenNil))))) (w_or1 (t_not (t_truth (s_call (cal hA hr 10 rfl) tk (s_cons (s_call (cal hA hr 1 rfl) tk (s_cons (s_var 4) s_nil) rfl (lenCons lenNil)) (s_cons (s_var 3) s_nil)) rfl (lenCons (lenCons lenNil))))))))
    (z_one (z_ret s_bl))
    z_nil)
    (z_cons (z_asg (s_callS 1 (cal hA hr 13 rfl) tk rfl (by first | exact Or.inl rfl | exact Or.inr (Or.inl rfl) | exact Or.inr (Or.inr rfl)) (s_cons s_int s_nil) rfl (lenCons lenNil)) (g_tup rfl (gs_cons (g_name 5 nd) (gs_cons (g_name 6 nd) gs_nil))))
    (z_cons (z_if (SW.pt (w_or (t_not (t_truth (s_call (cal hA hr 10 rfl) tk (s_cons (s_call (cal hA hr 2 rfl) tk (s_cons (s_var 5) s_nil) rfl (lenCons lenNil)) (s_cons (s_var 6) s_nil)) rfl (lenCons (lenCons lenNil))))) (w_or1 (t_not (t_truth (s_call (cal hA hr 10 rfl) tk (s_cons (s_call (cal hA hr 5 rfl) tk (s_cons (s_var 6) s_nil) rfl (lenCons lenNil)) (s_cons (s_var 5) s_nil)) rfl (lenCons (lenCons lenNil))))))))
    (z_one (z_ret s_bl))
    z_nil)
    (z_cons (z_if (t_not (t_truth (s_call (cal hA hr 14 rfl) tk (s_cons (s_fn 1 (by rw [had.1 1 _ _ rfl]; exact qg20 c KX G)) (s_cons (s_callS 1 (cal hA hr 8 rfl) tk rfl (by first | exact Or.inl rfl | exact Or.inr (Or.inl rfl) | exact Or.inr (Or.inr rfl)) (s_cons (s_call (cal hA hr 15 rfl) tk (s_cons (s_var 4) s_nil) rfl (lenCons lenNil)) s_nil) rfl (lenCons lenNil)) s_nil)) rfl (lenCons (lenCons lenNil)))))
    (z_one (z_ret s_bl))
    z_nil)
    (z_one (z_if (t_not (t_truth (s_call (cal hA hr 14 rfl) tk (s_cons (s_fn 5 (by rw [had.1 5 _ _ rfl]; exact qg21 c KX G)) (s_cons (s_callS 1 (cal hA hr 8 rfl) tk rfl (by first | exact Or.inl rfl | exact Or.inr (Or.inl rfl) | exact Or.inr (Or.inr rfl)) (s_cons (s_callS 1 (cal hA hr 16 rfl) tk rfl (by first | exact Or.inl rfl | exact Or.inr (Or.inl rfl) | exact Or.inr (Or.inr rfl)) (s_cons (s_var 6) s_nil) rfl (lenCons lenNil)) s_nil) rfl (lenCons lenNil)) s_nil)) rfl (lenCons (lenCons lenNil)))))
    (z_one (z_ret s_bl))
    z_nil))))))))
    (z_cons (z_asg (s_bin o_add k_add s_int (s_callS 1 (cal hA hr 7 rfl) tk rfl (by first | exact Or.inl rfl | exact Or.inr (Or.inl rfl) | exact Or.inr (Or.inr rfl)) (s_cons s_int s_nil) rfl (lenCons lenNil))) (g_name 7 nd))
    (z_cons (z_asg (s_callS 1 (cal hA hr 11 rfl) tk rfl (by first | exact Or.inl rfl | exact Or.inr (Or.inl rfl) | exact Or.inr (Or.inr rfl)) s_nil rfl lenNil) (g_tup rfl (gs_cons (g_name 3 nd) (gs_cons (g_name 4 nd) gs_nil))))
    (z_cons (z_asg (s_bin o_add k_add (s_bin o_add k_add (s_bin o_mulA2 k_mulA2 (s_str [40]) (s_var 7)) (s_var 4)) (s_bin o_mulA2 k_mulA2 (s_str [41]) (s_var 7))) (g_name 8 nd))
    (z_cons (z_if (t_cmp o_gt k_gt (s_var 7) s_int)
    (z_one (z_ret (s_and (s_call (cal hA hr 14 rfl) tk (s_cons (s_fn 5 (by rw [had.1 5 _ _ rfl]; exact qg21 c KX G)) (s_cons (s_var 8) s_nil)) rfl (lenCons (lenCons lenNil))) (s_one (s_call (cal hA hr 14 rfl) tk (s_cons (s_fn 5 (by rw [had.1 5 _ _ rfl]; exact qg21 c KX G)) (s_cons (s_bin o_add k_add (s_bin o_mulA2 k_mulA2 (s_str [40]) (s_var 7)) (s_bin o_mulA2 k_mulA2 (s_str [41]) (s_var 7))) s_nil)) rfl (lenCons (lenCons lenNil)))))))
    z_nil)
    (z_cons (z_asg (s_var 3) (g_name 5 nd))
    (z_cons (z_for hp rfl (i_range1 (qf10 c KX G) (s_cons (s_var 7) s_nil)) (g_name 9 nd)
    (z_one (z_asg (s_tup (s_cons (s_var 5) s_nil)) (g_name 5 nd))))
    (z_one (z_ret (s_and (s_call (cal hA hr 10 rfl) tk (s_cons (s_call (cal hA hr 5 rfl) tk (s_cons (s_var 8) s_nil) rfl (lenCons lenNil)) (s_cons (s_var 5) s_nil)) rfl (lenCons (lenCons lenNil))) (s_one (s_call (cal hA hr 10 rfl) tk (s_cons (s_call (cal hA hr 2 rfl) tk (s_cons (s_var 5) s_nil) rfl (lenCons lenNil)) (s_cons (s_var 8) s_nil)) rfl (lenCons (lenCons lenNil)))))))))))))))
theorem allOk (c : He.SaysD fa fn K) (cx : exs K = true) (ct : He.SaysT fa fn ts w K) (had : Had K ad) (KX : K.In base) (G : base.Ns mainGlobals mg) : ∀ n, All P w K mg base ad n
  | 0 => fun i x ps h => by
    have hz : ∀ (b : Bool) (x : Str) (ps : List Str) (d : He.DefD) (j : Nat), fn[j]? = some d → d.at_ = (x, none) → d.dvs K = [] → d.kws K = [] → (∀ fd, FunD K d.name d.qual d.params d.body d.scope [] [] (He.ga K x) fd → Binds K fd ps []) → mg x = some (.ref (He.ga K x)) →
        ∃ fd, FnOk P w K mg base (L2.CX P w) 0 (He.ga K x) fd ps (spN b K ad ps.length (fun _ => .bad)) ∧ mg x = some (.ref (He.ga K x)) ∧ PySem.W.keepIn K (.ref (He.ga K x)) = true ∧ Binds K fd ps [] := fun b x ps d j hj ha h1 h2 hb hg => by
      obtain ⟨fd, F⟩ := c.def_ j hj
      rw [h1, h2, ha] at F
      exact ⟨fd, ⟨fun vs H Q E h => by cases b <;> (obtain ⟨F0, os, f0, _, _, _, z⟩ := h; exact z.elim), fun A outer s H args us vs Q E _ _ _ _ h => by cases b <;> (obtain ⟨F0, os, f0, _, _, _, z⟩ := h; exact z.elim)⟩, hg, F.kp, hb fd F⟩
    match i, h with
    | 0, h => cases h; exact hz _ _ _ (dD "write_integer" 6) 0 rfl rfl rfl rfl (fun fd F => F.bindsN fun _ _ _ _ _ _ us hl => match us, hl with | [_], _ => rfl) (qg22 c KX G)
    | 1, h => cases h; exact hz _ _ _ (dD "read_integer" 7) 1 rfl rfl rfl rfl (fun fd F => F.bindsN fun _ _ _ _ _ _ us hl => match us, hl with | [_], _ => rfl) (qg20 c KX G)
    | 2, h => cases h; exact hz _ _ _ (dD "write_data" 11) 2 rfl rfl rfl rfl (fun fd F => F.bindsN fun _ _ _ _ _ _ us hl => match us, hl with | [_], _ => rfl) (qg23 c KX G)
    | 3, h => cases h; exact hz _ _ _ (dD "plain_text" 12) 3 rfl rfl rfl rfl (fun fd F => F.bindsN fun _ _ _ _ _ _ us hl => match us, hl with | [_], _ => rfl) (qg24 c KX G)
    | 4, h => cases h; exact hz _ _ _ (dD "read_plain" 13) 4 rfl rfl rfl rfl (fun fd F => F.bindsN fun _ _ _ _ _ _ us hl => match us, hl with | [_, _], _ => rfl) (qg25 c KX G)
    | 5, h => cases h; exact hz _ _ _ (dD "read_data" 14) 5 rfl rfl rfl rfl (fun fd F => F.bindsN fun _ _ _ _ _ _ us hl => match us, hl with | [_], _ => rfl) (qg21 c KX G)
    | 6, h => cases h; exact hz _ _ _ (dD "_law_start" 16) 6 rfl rfl rfl rfl (fun fd F => F.bindsN fun _ _ _ _ _ _ us hl => match us, hl with | [_], _ => rfl) (qg26 c KX G)
    | 7, h => cases h; exact hz _ _ _ (dD "_law_draw" 17) 7 rfl rfl rfl rfl (fun fd F => F.bindsN fun _ _ _ _ _ _ us hl => match us, hl with | [_, _], _ => rfl) (qg27 c KX G)
    | 8, h => cases h; exact hz _ _ _ (dD "_law_one_of" 18) 8 rfl rfl rfl rfl (fun fd F => F.bindsN fun _ _ _ _ _ _ us hl => match us, hl with | [_, _], _ => rfl) (qg28 c KX G)
    | 9, h => cases h; exact hz _ _ _ (dD "_law_is_int" 19) 9 rfl rfl rfl rfl (fun fd F => F.bindsN fun _ _ _ _ _ _ us hl => match us, hl with | [_], _ => rfl) (qg29 c KX G)
    | 10, h => cases h; exact hz _ _ _ (dD "_law_same" 20) 10 rfl rfl rfl rfl (fun fd F => F.bindsN fun _ _ _ _ _ _ us hl => match us, hl with | [_, _], _ => rfl) (qg30 c KX G)
    | 11, h => cases h; exact hz _ _ _ (dD "_law_integer_drawn" 21) 11 rfl rfl rfl rfl (fun fd F => F.bindsN fun _ _ _ _ _ _ us hl => match us, hl with | [_], _ => rfl) (qg31 c KX G)
    | 12, h => cases h; exact hz _ _ _ (dD "_law_text_drawn" 22) 12 rfl rfl rfl rfl (fun fd F => F.bindsN fun _ _ _ _ _ _ us hl => match us, hl with | [_], _ => rfl) (qg32 c KX G)
    | 13, h => cases h; exact hz _ _ _ (dD "_law_datum_drawn" 23) 13 rfl rfl rfl rfl (fun fd F => F.bindsN fun _ _ _ _ _ _ us hl => match us, hl with | [_, _], _ => rfl) (qg33 c KX G)
    | 14, h => cases h; exact hz _ _ _ (dD "_law_is_refused" 24) 14 rfl rfl rfl rfl (fun fd F => F.bindsN fun _ _ _ _ _ _ us hl => match us, hl with | [_, _], _ => rfl) (qg34 c KX G)
    | 15, h => cases h; exact hz _ _ _ (dD "_law_bad_integers" 25) 15 rfl rfl rfl rfl (fun fd F => F.bindsN fun _ _ _ _ _ _ us hl => match us, hl with | [_], _ => rfl) (qg35 c KX G)
    | 16, h => cases h; exact hz _ _ _ (dD "_law_bad_data" 26) 16 rfl rfl rfl rfl (fun fd F => F.bindsN fun _ _ _ _ _ _ us hl => match us, hl with | [_, _], _ => rfl) (qg36 c KX G)
    | 17, h => cases h; exact hz _ _ _ (dD "law" 27) 17 rfl rfl rfl rfl (fun fd F => F.bindsN fun _ _ _ _ _ _ us hl => match us, hl with | [_], _ => rfl) (qg37 c KX G)
    | k + 18, h => simp [fns] at h
  | n + 1 => fun i x ps h => by
    have hA := allOk c cx ct had KX G n
    match i, h with
    | 0, h => cases h; obtain ⟨fd, F⟩ := c.def_ 0 (d := dD "write_integer" 6) rfl; obtain ⟨h1, h2, h3⟩ := ok0 (ad := ad) F c cx ct had KX G hA; exact ⟨fd, h1, qg22 c KX G, h2, h3⟩
    | 1, h => cases h; obtain ⟨fd, F⟩ := c.def_ 1 (d := dD "read_integer" 7) rfl; obtain ⟨h1, h2, h3⟩ := ok1 (ad := ad) F c cx ct had KX G hA; exact ⟨fd, h1, qg20 c KX G, h2, h3⟩
    | 2, h => cases h; obtain ⟨fd, F⟩ := c.def_ 2 (d := dD "write_data" 11) rfl; obtain ⟨h1, h2, h3⟩ := ok2 (ad := ad) F c cx ct had KX G hA; exact ⟨fd, h1, qg23 c KX G, h2, h3⟩
    | 3, h => cases h; obtain ⟨fd, F⟩ := c.def_ 3 (d := dD "plain_text" 12) rfl; obtain ⟨h1, h2, h3⟩ := ok3 (ad := ad) F c cx ct had KX G hA; exact ⟨fd, h1, qg24 c KX G, h2, h3⟩
    | 4, h => cases h; obtain ⟨fd, F⟩ := c.def_ 4 (d := dD "read_plain" 13) rfl; obtain ⟨h1, h2, h3⟩ := ok4 (ad := ad) F c cx ct had KX G hA; exact ⟨fd, h1, qg25 c KX G, h2, h3⟩
    | 5, h => cases h; obtain ⟨fd, F⟩ := c.def_ 5 (d := dD "read_data" 14) rfl; obtain ⟨h1, h2, h3⟩ := ok5 (ad := ad) F c cx ct had KX G hA; exact ⟨fd, h1, qg21 c KX G, h2, h3⟩
    | 6, h => cases h; obtain ⟨fd, F⟩ := c.def_ 6 (d := dD "_law_start" 16) rfl; obtain ⟨h1, h2, h3⟩ := ok6 (ad := ad) F c cx ct had KX G hA; exact ⟨fd, h1, qg26 c KX G, h2, h3⟩
    | 7, h => cases h; obtain ⟨fd, F⟩ := c.def_ 7 (d := dD "_law_draw" 17) rfl; obtain ⟨h1, h2, h3⟩ := ok7 (ad := ad) F c cx ct had KX G hA; exact ⟨fd, h1, qg27 c KX G, h2, h3⟩
    | 8, h => cases h; obtain ⟨fd, F⟩ := c.def_ 8 (d := dD "_law_one_of" 18) rfl; obtain ⟨h1, h2, h3⟩ := ok8 (ad := ad) F c cx ct had KX G hA; exact ⟨fd, h1, qg28 c KX G, h2, h3⟩
    | 9, h => cases h; obtain ⟨fd, F⟩ := c.def_ 9 (d := dD "_law_is_int" 19) rfl; obtain ⟨h1, h2, h3⟩ := ok9 (ad := ad) F c cx ct had KX G hA; exact ⟨fd, h1, qg29 c KX G, h2, h3⟩
    | 10, h => cases h; obtain ⟨fd, F⟩ := c.def_ 10 (d := dD "_law_same" 20) rfl; obtain ⟨h1, h2, h3⟩ := ok10 (ad := ad) F c cx ct had KX G hA; exact ⟨fd, h1, qg30 c KX G, h2, h3⟩
    | 11, h => cases h; obtain ⟨fd, F⟩ := c.def_ 11 (d := dD "_law_integer_drawn" 21) rfl; obtain ⟨h1, h2, h3⟩ := ok11 (ad := ad) F c cx ct had KX G hA; exact ⟨fd, h1, qg31 c KX G, h2, h3⟩
    | 12, h => cases h; obtain ⟨fd, F⟩ := c.def_ 12 (d := dD "_law_text_drawn" 22) rfl; obtain ⟨h1, h2, h3⟩ := ok12 (ad := ad) F c cx ct had KX G hA; exact ⟨fd, h1, qg32 c KX G, h2, h3⟩
    | 13, h => cases h; obtain ⟨fd, F⟩ := c.def_ 13 (d := dD "_law_datum_drawn" 23) rfl; obtain ⟨h1, h2, h3⟩ := ok13 (ad := ad) F c cx ct had KX G hA; exact ⟨fd, h1, qg33 c KX G, h2, h3⟩
    | 14, h => cases h; obtain ⟨fd, F⟩ := c.def_ 14 (d := dD "_law_is_refused" 24) rfl; obtain ⟨h1, h2, h3⟩ := ok14 (ad := ad) F c cx ct had KX G hA; exact ⟨fd, h1, qg34 c KX G, h2, h3⟩
    | 15, h => cases h; obtain ⟨fd, F⟩ := c.def_ 15 (d := dD "_law_bad_integers" 25) rfl; obtain ⟨h1, h2, h3⟩ := ok15 (ad := ad) F c cx ct had KX G hA; exact ⟨fd, h1, qg35 c KX G, h2, h3⟩
    | 16, h => cases h; obtain ⟨fd, F⟩ := c.def_ 16 (d := dD "_law_bad_data" 26) rfl; obtain ⟨h1, h2, h3⟩ := ok16 (ad := ad) F c cx ct had KX G hA; exact ⟨fd, h1, qg36 c KX G, h2, h3⟩
    | 17, h => cases h; obtain ⟨fd, F⟩ := c.def_ 17 (d := dD "law" 27) rfl; obtain ⟨h1, h2, h3⟩ := ok17 (ad := ad) F c cx ct had KX G hA; exact ⟨fd, h1, qg37 c KX G, h2, h3⟩
    | k + 18, h => simp [fns] at h
end
end K33

set_option Elab.async false
set_option linter.all false
namespace K33
open Mn PySem PySem.Spec PyProof.Rows L2
theorem e0 {n : Nat} : sem (n + 1) 0 = fnOf false 2 (B0 (sem n)) := rfl
theorem e1 {n : Nat} : sem (n + 1) 1 = fnOf false 5 (B1 (sem n)) := rfl
theorem e2 {n : Nat} : sem (n + 1) 2 = fnOf false 1 (B2 (sem n)) := rfl
theorem e3 {n : Nat} : sem (n + 1) 3 = fnOf false 1 (B3 (sem n)) := rfl
theorem e4 {n : Nat} : sem (n + 1) 4 = fnOf false 1 (B4 (sem n)) := rfl
theorem e5 {n : Nat} : sem (n + 1) 5 = fnOf false 5 (B5 (sem n)) := rfl
theorem e6 {n : Nat} : sem (n + 1) 6 = fnOf false 0 (B6 (sem n)) := rfl
theorem e7 {n : Nat} : sem (n + 1) 7 = fnOf true 3 (B7 (sem n)) := rfl
theorem e8 {n : Nat} : sem (n + 1) 8 = fnOf true 0 (B8 (sem n)) := rfl
theorem e9 {n : Nat} : sem (n + 1) 9 = fnOf false 0 (B9 (sem n)) := rfl
theorem e10 {n : Nat} : sem (n + 1) 10 = fnOf false 1 (B10 (sem n)) := rfl
theorem e11 {n : Nat} : sem (n + 1) 11 = fnOf true 6 (B11 (sem n)) := rfl
theorem e12 {n : Nat} : sem (n + 1) 12 = fnOf true 3 (B12 (sem n)) := rfl
theorem e13 {n : Nat} : sem (n + 1) 13 = fnOf true 5 (B13 (sem n)) := rfl
theorem e14 {n : Nat} : sem (n + 1) 14 = fnOf false 1 (B14 (sem n)) := rfl
theorem e15 {n : Nat} : sem (n + 1) 15 = fnOf false 1 (B15 (sem n)) := rfl
theorem e16 {n : Nat} : sem (n + 1) 16 = fnOf true 2 (B16 (sem n)) := rfl
theorem e17 {n : Nat} : sem (n + 1) 17 = fnOf false 9 (B17 (sem n)) := rfl
end K33

set_option Elab.async false
set_option linter.all false
set_option maxRecDepth 100000
set_option maxHeartbeats 4000000
namespace K33
open Mn PySem PySem.Spec PyProof.Rows L2
/-! comprehensions and loops, as a whole -/
theorem comp_map {α : Type} {own : List Nat} {t : Mt} {mi : M (List Mn.D)} {m : M O} {E E0 E1 : En} {xs : List α} (el : α → Mn.D) (g : α → O) (hi : mi E = .ok (xs.map el) E0) (hw0 : wipeE E0 own = E1)
    (h : ∀ x ∈ xs, ∃ E2 E3, t (.fz (el x)) E1 = .ok () E2 ∧ m E2 = .ok (g x) E3 ∧ wipeE E3 own = E1) (hl : xs.length ≤ 1000000) : mComp own t mi mYes m E = .ok (.lst (xs.map g)) E1 := by
  have hw : wipeE E1 own = E1 := by rw [← hw0, wipeE_wipeE]
  have go : ∀ (xs : List α) (acc : List O), (∀ x ∈ xs, ∃ E2 E3, t (.fz (el x)) E1 = .ok () E2 ∧ m E2 = .ok (g x) E3 ∧ wipeE E3 own = E1) → acc.length + xs.length ≤ 1000000 → cIter own t mYes m (xs.map el) acc E1 = .ok (acc ++ xs.map g) E1 := by
    intro xs
    induction xs with
    | nil => intro acc _ _; simp [cIter, hw]
    | cons x xs ih =>
      intro acc h hl
      simp only [List.length_cons] at hl
      obtain ⟨E2, E3, h1, h2, h3⟩ := h x (by simp)
      rw [List.map_cons]
      unfold cIter
      rw [h1, only_ok, ev_yes, only_ok]
      simp only [if_true]
      rw [h2, only_ok, if_pos (szu _ (by omega)), h3, ih (acc ++ [g x]) (fun y hy => h y (by simp [hy])) (by simp; omega)]
      simp
  rw [ev_comp, hi, bind_ok', hw0, go xs [] h (by simpa using hl), only_ok', List.nil_append]
theorem comp_filter {α : Type} {own : List Nat} {t : Mt} {mi : M (List Mn.D)} {c : M Bool} {m : M O} {E E0 E1 : En} {xs : List α} (el : α → Mn.D) (p : α → Bool) (g : α → O) (hi : mi E = .ok (xs.map el) E0) (hw0 : wipeE E0 own = E1)
    (h : ∀ x ∈ xs, ∃ E2 E3, t (.fz (el x)) E1 = .ok () E2 ∧ c E2 = .ok (p x) E3 ∧ (p x = false → wipeE E3 own = E1) ∧ (p x = true → ∃ E4, m E3 = .ok (g x) E4 ∧ wipeE E4 own = E1)) (hl : xs.length ≤ 1000000) : mComp own t mi c m E = .ok (.lst ((xs.filter p).map g)) E1 := by
  have hw : wipeE E1 own = E1 := by rw [← hw0, wipeE_wipeE]
  have go : ∀ (xs : List α) (acc : List O), (∀ x ∈ xs, ∃ E2 E3, t (.fz (el x)) E1 = .ok () E2 ∧ c E2 = .ok (p x) E3 ∧ (p x = false → wipeE E3 own = E1) ∧ (p x = true → ∃ E4, m E3 = .ok (g x) E4 ∧ wipeE E4 own = E1)) → acc.length + xs.length ≤ 1000000 → cIter own t c m (xs.map el) acc E1 = .ok (acc ++ (xs.filter p).map g) E1 := by
    intro xs
    induction xs with
    | nil => intro acc _ _; simp [cIter, hw]
    | cons x xs ih =>
      intro acc h hl
      simp only [List.length_cons] at hl
      obtain ⟨E2, E3, h1, h2, h3, h4⟩ := h x (by simp)
      rw [List.map_cons]
      unfold cIter
      rw [h1, only_ok, h2, only_ok]
      cases hp : p x with
      | false =>
        simp only [Bool.false_eq_true, if_false]
        rw [h3 hp, ih acc (fun y hy => h y (by simp [hy])) (by omega), List.filter_cons_of_neg (by simp [hp])]
      | true =>
        simp only [if_true]
        obtain ⟨E4, h5, h6⟩ := h4 hp
        rw [h5, only_ok, if_pos (szu _ (by omega)), h6, ih (acc ++ [g x]) (fun y hy => h y (by simp [hy])) (by simp; omega), List.filter_cons_of_pos hp]
        simp
  rw [ev_comp, hi, bind_ok', hw0, go xs [] h (by simpa using hl), only_ok', List.nil_append]
theorem fIter_fold {α β : Type} {t : Mt} {b : Ms} (S : Nat → β → En → Prop) (step : β → α → β) (el : α → Mn.D) : ∀ (xs : List α) (j : Nat) (acc : β) (E : En), S j acc E →
    (∀ x ∈ xs, ∀ (j' : Nat) (acc : β) (E : En), j ≤ j' → j' < j + xs.length → S j' acc E → ∃ E1, t (.fz (el x)) E = .ok () E1 ∧ ∃ E2, b E1 = .next E2 ∧ S (j' + 1) (step acc x) E2) →
    ∃ E', fIter t b (xs.map el) E = .next E' ∧ S (j + xs.length) (xs.foldl step acc) E'
  | [], j, acc, E, h, _ => ⟨E, rfl, h⟩
  | x :: xs, j, acc, E, h, hs => by
    obtain ⟨E1, h1, E2, h2, h3⟩ := hs x (by simp) j acc E (Nat.le_refl _) (by simp) h
    obtain ⟨E', g1, g2⟩ := fIter_fold S step el xs (j + 1) (step acc x) E2 h3 (fun y hy j' acc E a b hS => hs y (by simp [hy]) j' acc E (by omega) (by simp; omega) hS)
    refine ⟨E', ?_, ?_⟩
    · show fIter t b (el x :: xs.map el) E = _
      unfold fIter
      rw [h1, fl_ok, h2]
      exact g1
    · rw [List.length_cons, show j + (xs.length + 1) = j + 1 + xs.length by omega]
      exact g2
theorem z1 : 1 ≤ sizeLine := szt _ (by omega)
theorem z2 : 2 ≤ sizeLine := szt _ (by omega)
theorem z3 : 3 ≤ sizeLine := szt _ (by omega)
theorem z4 : 4 ≤ sizeLine := szt _ (by omega)
theorem z5 : 5 ≤ sizeLine := szt _ (by omega)
theorem z9 : 9 ≤ sizeLine := szt _ (by omega)
theorem v_addT {s t : List Mn.D} (h : s.length + t.length ≤ 1000000) : pAdd [.fz (.tup s), .fz (.tup t)] = some (.fz (.tup (s ++ t))) := by
  have := szt _ h
  simp [pAdd, orO, pAddI, dII, catS, catT, this]
theorem v_addS {s t : List Nat} (h : s.length + t.length ≤ 1000000) : pAdd [.fz (.str s), .fz (.str t)] = some (.fz (.str (s ++ t))) := by
  have := szt _ h
  simp [pAdd, orO, pAddI, dII, catS, this]
theorem rng1_nat (len : Nat) (h : len ≤ 1000000) : rng1 [.fz (.int (len : Int))] = some ((List.range len).map fun (i : Nat) => Mn.D.int (i : Int)) := by
  have hz : -(2 ^ 62) ≤ (len : Int) ∧ (len : Int) < 2 ^ 62 := by omega
  have e : ((len : Int)).toNat = len := by omega
  unfold rng1
  simp only [if_pos hz, e]
theorem tup_of (o : O) (ds : List Mn.D) (h : ds.length ≤ 1000000) (ho : o.toD = .lst ds ∨ o.toD = .tup ds) : pTuple [o] = some (.fz (.tup ds)) := by
  rcases ho with ho | ho
  · simp only [pTuple, ho, oTuple]
    rw [if_pos (szt _ h)]
  · simp only [pTuple, ho, oTuple]
theorem toD_own (ds : List Mn.D) : (O.lst (ds.map O.fz)).toD = .lst ds := by simp [toDs_eq, List.map_map, Function.comp_def]
/-! step by step -/
section
variable {m m1 m2 m3 m4 m5 : M O} {E E1 E2 E3 E4 E5 : En} {o o1 o2 o3 o4 o5 r : O} {g : List O → Option O} {φ : List O → Cr} {a b : Ms} {c : M Bool} {t : Mt} {s : Option O}
theorem x_p1 (h1 : m1 E = .ok o1 E1) (hg : g [o1] = some r) : mPrim g (mCons m1 mNil) E = .ok r E1 := by
  simp [h1, hg]
theorem x_p2 (h1 : m1 E = .ok o1 E1) (h2 : m2 E1 = .ok o2 E2) (hg : g [o1, o2] = some r) : mPrim g (mCons m1 (mCons m2 mNil)) E = .ok r E2 := by
  simp [h1, h2, hg]
theorem x_c0 (hg : φ [] = .ok r s) : mCall φ mNil E = .ok r E := by
  simp [hg]
theorem x_c1 (h1 : m1 E = .ok o1 E1) (hg : φ [o1] = .ok r s) : mCall φ (mCons m1 mNil) E = .ok r E1 := by
  simp [h1, hg]
theorem x_c2 (h1 : m1 E = .ok o1 E1) (h2 : m2 E1 = .ok o2 E2) (hg : φ [o1, o2] = .ok r s) : mCall φ (mCons m1 (mCons m2 mNil)) E = .ok r E2 := by
  simp [h1, h2, hg]
theorem x_c3 (h1 : m1 E = .ok o1 E1) (h2 : m2 E1 = .ok o2 E2) (h3 : m3 E2 = .ok o3 E3) (hg : φ [o1, o2, o3] = .ok r s) : mCall φ (mCons m1 (mCons m2 (mCons m3 mNil))) E = .ok r E3 := by
  simp [h1, h2, h3, hg]
theorem x_c4 (h1 : m1 E = .ok o1 E1) (h2 : m2 E1 = .ok o2 E2) (h3 : m3 E2 = .ok o3 E3) (h4 : m4 E3 = .ok o4 E4) (hg : φ [o1, o2, o3, o4] = .ok r s) : mCall φ (mCons m1 (mCons m2 (mCons m3 (mCons m4 mNil)))) E = .ok r E4 := by
  simp [h1, h2, h3, h4, hg]
theorem x_c5 (h1 : m1 E = .ok o1 E1) (h2 : m2 E1 = .ok o2 E2) (h3 : m3 E2 = .ok o3 E3) (h4 : m4 E3 = .ok o4 E4) (h5 : m5 E4 = .ok o5 E5) (hg : φ [o1, o2, o3, o4, o5] = .ok r s) : mCall φ (mCons m1 (mCons m2 (mCons m3 (mCons m4 (mCons m5 mNil))))) E = .ok r E5 := by
  simp [h1, h2, h3, h4, h5, hg]
theorem x_ret (h1 : m E = .ok o E1) : mRet m E = .ret o E1 := by simp [h1]
theorem x_seq {f : Fl} (h1 : a E = .next E1) (h2 : b E1 = f) : mSeq a b E = f := by rw [ev_seq, h1, seq_next', h2]
theorem x_seqR (h1 : a E = .ret o E1) : mSeq a b E = .ret o E1 := by rw [ev_seq, h1, seq_ret']
theorem x_ifT {f : Fl} (h1 : c E = .ok true E1) (h2 : a E1 = f) : mIf c a b E = f := by rw [ev_if, h1, fl_ok', if_pos rfl, h2]
theorem x_ifF {f : Fl} (h1 : c E = .ok false E1) (h2 : b E1 = f) : mIf c a b E = f := by rw [ev_if, h1, fl_ok']; simpa using h2
theorem x_for {mi : M (List Mn.D)} {ds : List Mn.D} {f : Fl} (h1 : mi E = .ok ds E1) (h2 : fIter t b ds E1 = f) : mFor t mi b E = f := by rw [ev_for, h1, fl_ok', h2]
theorem x_asg (h1 : m E = .ok o E1) (h2 : t o E1 = .ok () E2) : mAsg t m E = .next E2 := by rw [ev_asg, h1, fl_ok', h2, fl_ok']
theorem x_drop (h1 : m E = .ok o E1) : mDrop m E = .next E1 := by rw [ev_drop, h1, fl_ok']
theorem x_val {ds : List Mn.D} (h1 : m E = .ok o E1) (h2 : itD o.toD = some ds) : iVal m E = .ok ds E1 := by rw [ev_val, h1, bind_ok']; simp only [h2]
theorem x_andV (h1 : m1 E = .ok (.fz (.bl true)) E1) {r : R O} (h2 : m2 E1 = r) : mAndV m1 m2 E = r := by rw [ev_andV, h1, bind_ok']; exact h2
theorem x_ext {i : Nat} {xs : List O} {d : Mn.D} {ds : List Mn.D} (h0 : E[i]? = some (some (.lst xs))) (h1 : m1 E = .ok o1 E1) (h01 : E1[i]? = some (some (.lst xs))) (hd : o1.toD = d) (hs : seqD d = some ds) (hl : xs.length + ds.length ≤ 1000000) :
    mDrop (mMeth uExtendA i (mCons m1 mNil)) E = .next (E1.set i (some (.lst (xs ++ ds.map O.fz)))) := by
  have hz := szt _ hl
  have hu : uExtendA (.lst xs) [o1] = some (.fz .non, .lst (xs ++ ds.map O.fz)) := by
    simp only [uExtendA, hd, hs]
    rw [if_pos hz]
  simp [h0, h1, h01, hu]
theorem x_app {i : Nat} {xs : List O} (h0 : E[i]? = some (some (.lst xs))) (h1 : m1 E = .ok o1 E1) (h01 : E1[i]? = some (some (.lst xs))) (hl : xs.length ≤ 999999) :
    mDrop (mMeth uAppend i (mCons m1 mNil)) E = .next (E1.set i (some (.lst (xs ++ [o1])))) := by
  have hz := szu xs.length (by omega)
  have hu : uAppend (.lst xs) [o1] = some (.fz .non, .lst (xs ++ [o1])) := by
    simp only [uAppend]
    rw [if_pos hz]
  simp [h0, h1, h01, hu]
theorem fn_ret {k : Nat} {B : Ms} {os : List O} (h : B (os.map some ++ List.replicate k none) = .ret o E) : fnOf false k B os = .ok o none := by
  simp only [fnOf]
  rw [h]
  rfl
end
/-! plain data: what _law_same asks -/
inductive Pl : Nat → Mn.D → Prop
  | int {n : Nat} {i : Int} : Pl n (.int i)
  | str {n : Nat} {s : List Nat} : Pl n (.str s)
  | tup {n : Nat} {ds : List Mn.D} (h : ds.length ≤ 1000000) (hd : ∀ d ∈ ds, Pl n d) : Pl (n + 1) (.tup ds)
theorem Pl.up {m n : Nat} {d : Mn.D} (h : Pl m d) (hm : m ≤ n) : Pl n d := by
  induction h generalizing n with
  | int => exact .int
  | str => exact .str
  | @tup m ds hl hd ih =>
    cases n with
    | zero => omega
    | succ n => exact .tup hl fun d hdm => ih d hdm (by omega)
theorem same_tup {G : Nat → List O → Cr} {ds : List Mn.D} (hl : ds.length ≤ 1000000) (ih : ∀ d ∈ ds, G 10 [.fz d, .fz d] = .ok (.fz (.bl true)) none) : fnOf false 1 (B10 G) [.fz (.tup ds), .fz (.tup ds)] = .ok (.fz (.bl true)) none := by
  have hr := rng1_nat ds.length hl
  have hc := comp_map (own := [2]) (t := tName 2) (mi := iArgs rng1 (mCons (mRd1 dLen 1) mNil)) (m := mCall (G 10) (mCons (mIdx 0 (mVar 2)) (mCons (mIdx 1 (mVar 2)) mNil))) (E := [some (.fz (.tup ds)), some (.fz (.tup ds)), none]) (E1 := [some (.fz (.tup ds)), some (.fz (.tup ds)), none]) (xs := List.range ds.length) (fun (i : Nat) => Mn.D.int (i : Int)) (fun _ => .fz (.bl true)) (by
    have q : (mCons (mRd1 dLen 1) mNil) [some (.fz (.tup ds)), some (.fz (.tup ds)), none] = .ok [.fz (.int (ds.length : Int))] [some (.fz (.tup ds)), some (.fz (.tup ds)), none] := by simp
    rw [ev_args, q, bind_ok', hr]) rfl (fun k hk => by
    have hk' : k < ds.length := by simpa using hk
    have ha : atI ds (k : Int) = some ds[k] := by rw [at_int_nat, List.getElem?_eq_getElem hk']
    have hs := ih ds[k] (List.getElem_mem _)
    exact ⟨_, [some (.fz (.tup ds)), some (.fz (.tup ds)), some (.fz (.int k))], by simp; rfl, by simp [ha, hs], rfl⟩) (by simpa using hl)
  have hall := all_map (fun _ : Nat => true) (List.range ds.length)
  have e2 : (List.range ds.length).all (fun _ => true) = true := by simp
  rw [e2] at hall
  have hif : mTru (mIsi "tuple" (mVar 1)) [some (.fz (.tup ds)), some (.fz (.tup ds)), none] = .ok true [some (.fz (.tup ds)), some (.fz (.tup ds)), none] := by simp
  have hif2 : (mOr (mNot (mTru (mIsi "tuple" (mVar 0)))) (mAsB (mPrim (g2 (qEq true)) (mCons (mRd1 dLen 0) (mCons (mRd1 dLen 1) mNil))))) [some (.fz (.tup ds)), some (.fz (.tup ds)), none] = .ok false [some (.fz (.tup ds)), some (.fz (.tup ds)), none] := by simp
  exact fn_ret (x_seqR (x_ifT hif (x_seq (x_ifF hif2 rfl) (x_ret (x_p1 hc hall)))))
theorem same_ok {n m : Nat} {d : Mn.D} (h : Pl m d) : sem (n + m + 2) 10 [.fz d, .fz d] = .ok (.fz (.bl true)) none := by
  induction h with
  | @int m i =>
    have e : sem (n + m + 1) 9 [.fz (.int i)] = .ok (.fz (.bl true)) none := by
      rw [e9]
      simp [fnOf, B9]
    rw [show n + m + 2 = (n + m + 1) + 1 from rfl, e10]
    simp [fnOf, B10, e]
  | @str m s =>
    rw [show n + m + 2 = (n + m + 1) + 1 from rfl, e10]
    simp [fnOf, B10]
  | @tup m ds hl hd ih =>
    rw [show n + (m + 1) + 2 = (n + m + 2) + 1 from rfl, e10]
    exact same_tup hl fun d hdm => ih d hdm
theorem v_toD {i : Nat} {E : En} {o : O} {ds : List Mn.D} (ho : Lsts o ds) (h : E[i]? = some (some o)) : mVar i E = .ok (.fz (.lst ds)) (E.set i (some (.fz (.lst ds)))) := by
  rcases ho with rfl | rfl
  · have hi : i < E.length := by
      rcases Nat.lt_or_ge i E.length with h' | h'
      · exact h'
      · rw [List.getElem?_eq_none h'] at h; cases h
    have : E.set i (some (.fz (.lst ds))) = E := by
      apply List.ext_getElem?
      intro j
      rw [List.getElem?_set]
      by_cases hj : i = j
      · subst hj
        rw [if_pos rfl, if_pos hi, h]
      · simp [hj]
    rw [this]; exact ev_var h
  · have e := toDs_map (ds := ds)
    simp [h, e]
end K33

set_option Elab.async false
set_option linter.all false
set_option maxRecDepth 100000
set_option maxHeartbeats 4000000
namespace K33
open Mn PySem PySem.Spec PyProof.Rows L2
/-! texts of numbers; write_integer -/
abbrev T := List Nat
open TL (numL)
open PySem.NumText renaming AllDigits → AD, digitsVal → dv
theorem dv_snoc (xs : T) (c : Nat) : dv (xs ++ [c]) = dv xs * 10 + (c - 48) := by
  simp [PySem.NumText.digitsVal, List.foldl_append]
theorem dv_append (a : T) : ∀ b : T, dv (a ++ b) = dv a * 10 ^ b.length + dv b := by
  intro b
  generalize hn : b.length = n
  induction n generalizing b with
  | zero =>
    have : b = [] := List.length_eq_zero_iff.mp hn
    subst this
    simp [PySem.NumText.digitsVal]
  | succ n ih =>
    have hb : b ≠ [] := fun e => by subst e; simp at hn
    have e := List.dropLast_concat_getLast hb
    have hl : b.dropLast.length = n := by simp [hn]
    rw [← e, ← List.append_assoc, dv_snoc, dv_snoc, ih _ hl, Nat.pow_succ, Nat.add_mul, Nat.mul_assoc, Nat.add_assoc]
theorem ad_app {a b : T} : AD (a ++ b) ↔ AD a ∧ AD b := by
  constructor
  · exact fun h => ⟨fun c hc => h c (List.mem_append_left _ hc), fun c hc => h c (List.mem_append_right _ hc)⟩
  · intro ⟨h1, h2⟩ c hc
    rcases List.mem_append.mp hc with q | q
    · exact h1 c q
    · exact h2 c q
/-- written as a number is -/
def Cn (ds : T) : Prop := AD ds ∧ ds ≠ [] ∧ (ds.head? = some 48 → ds = [48])
theorem dv_pos {ds : T} (h : AD ds) (h0 : ds ≠ []) (h1 : ds.head? ≠ some 48) : 1 ≤ dv ds := by
  cases ds with
  | nil => exact absurd rfl h0
  | cons c cs =>
    have hc := h c (by simp)
    have : c ≠ 48 := fun e => h1 (by simp [e])
    rw [show c :: cs = [c] ++ cs from rfl, dv_append]
    have h2 : 1 ≤ dv [c] := by simp [PySem.NumText.digitsVal]; omega
    have h3 : 0 < 10 ^ cs.length := Nat.pow_pos (by omega)
    have := Nat.mul_le_mul h2 h3
    omega
theorem numL_canon {ds : T} (h : Cn ds) : numL (dv ds) = ds := by
  generalize hn : ds.length = n
  induction n generalizing ds with
  | zero => exact absurd (List.length_eq_zero_iff.mp hn) h.2.1
  | succ n ih =>
    obtain ⟨h1, h2, h3⟩ := h
    have e := List.dropLast_concat_getLast h2
    generalize hx : ds.dropLast = xs at e
    generalize hc : ds.getLast h2 = c at e
    have hl : xs.length = n := by rw [← hx]; simp [hn]
    subst e
    have hcd := h1 c (by simp)
    rw [dv_snoc]
    by_cases hxe : xs = []
    · subst hxe
      have : dv [] * 10 + (c - 48) = c - 48 := by simp [PySem.NumText.digitsVal]
      rw [this, TL.numL_lt (by omega)]
      simp
      omega
    · have hxh : xs.head? ≠ some 48 := fun e => by
        have : (xs ++ [c]).head? = some 48 := by cases xs with
          | nil => exact absurd rfl hxe
          | cons a r => simpa using e
        have := congrArg List.length (h3 this)
        simp at this
        exact hxe this
      have ha := (ad_app.mp h1).1
      have hp := dv_pos ha hxe hxh
      rw [TL.numL_step (by omega), show (dv xs * 10 + (c - 48)) / 10 = dv xs by omega, show (dv xs * 10 + (c - 48)) % 10 = c - 48 by omega, ih ⟨ha, hxe, fun e => absurd e hxh⟩ hl]
      congr 2
      omega
/-- k signs -/
def fw : Nat → Nat → T
  | 0, _ => []
  | k + 1, n => fw k (n / 10) ++ [48 + n % 10]
theorem fw_len : ∀ k n : Nat, (fw k n).length = k
  | 0, _ => rfl
  | k + 1, n => by simp [fw, fw_len k]
theorem numL_split : ∀ (k n : Nat), 10 ^ k ≤ n → numL n = numL (n / 10 ^ k) ++ fw k n
  | 0, n, _ => by simp [fw]
  | k + 1, n, h => by
    rw [Nat.pow_succ] at h
    have hp : 0 < 10 ^ k := Nat.pow_pos (by omega)
    have h10 : 10 ≤ n := by
      have := Nat.mul_le_mul (Nat.succ_le_of_lt hp) (Nat.le_refl 10)
      omega
    have hq : 10 ^ k ≤ n / 10 := (Nat.le_div_iff_mul_le (by omega)).mpr h
    rw [TL.numL_step h10]
    show numL (n / 10) ++ _ = _
    rw [numL_split k (n / 10) hq, Nat.div_div_eq_div_mul, show 10 * 10 ^ k = 10 ^ (k + 1) by rw [Nat.pow_succ, Nat.mul_comm], fw, List.append_assoc]
theorem fw_zero : ∀ k : Nat, fw k 0 = List.replicate k 48
  | 0 => rfl
  | k + 1 => by
    rw [fw, show (0 : Nat) / 10 = 0 from rfl, fw_zero k, List.replicate_succ']
theorem numL_pos (m : Nat) : 1 ≤ (numL m).length := List.length_pos_iff.mpr (TL.numL_ne m)
theorem fw_pad : ∀ (k m : Nat), 0 < k → m < 10 ^ k → fw k m = List.replicate (k - (numL m).length) 48 ++ numL m
  | 0, m, h, _ => by omega
  | k + 1, m, _, h => by
    by_cases hm : m < 10
    · rw [TL.numL_lt hm, fw, show m / 10 = 0 by omega, fw_zero, show m % 10 = m by omega]
      simp
    · have hq : m / 10 < 10 ^ k := Nat.div_lt_of_lt_mul (by rw [Nat.pow_succ] at h; omega)
      have hk : 0 < k := by
        rcases Nat.eq_zero_or_pos k with e | e
        · subst e; simp at hq; omega
        · exact e
      have hs := TL.numL_step (n := m) (by omega)
      rw [fw, fw_pad k (m / 10) hk hq, hs, List.length_append, List.length_singleton, show k + 1 - ((numL (m / 10)).length + 1) = k - (numL (m / 10)).length by omega, List.append_assoc]
theorem fw_mod : ∀ (k n : Nat), fw k (n % 10 ^ k) = fw k n
  | 0, _ => rfl
  | k + 1, n => by
    have h1 : n % 10 ^ (k + 1) / 10 = n / 10 % 10 ^ k := by
      rw [Nat.pow_succ, Nat.mul_comm, Nat.mod_mul_right_div_self]
    have h2 : n % 10 ^ (k + 1) % 10 = n % 10 := by
      rw [Nat.pow_succ, Nat.mul_comm, Nat.mod_mul_right_mod]
    rw [fw, fw, h1, h2, fw_mod k]
/-! the calls -/
@[simp] theorem ev_strM (g : List Nat → List O → Option O) (mo : M O) (ms : M (List O)) (E : En) : mStrM g mo ms E = (mo E).bind fun o E1 => match o.str? with
  | some s => (ms E1).bind fun os E2 => match g s os with
    | some r => .ok r E2
    | none => .bad
  | none => .bad := rfl
@[simp] theorem str_fz (s : T) : (O.fz (.str s)).str? = some s := rfl
abbrev BI : Int := 10000000000000000000000000000000000000000000000000000000000000000
abbrev BN : Nat := 10000000000000000000000000000000000000000000000000000000000000000
theorem BN_eq : 10 ^ 64 = BN := by decide
theorem v_divmod (i : Int) : pDivmod [.fz (.int i), .fz (.int BI)] = some (.fz (.tup [.int (i / BI), .int (i % BI)])) := by
  have h : Builtin.divisionGoesByPylong i BI = false := by
    unfold Builtin.divisionGoesByPylong
    simp only
    rw [show decide ((if ((10000000000000000000000000000000000000000000000000000000000000000 : Int) == 0) = true then 0 else (10000000000000000000000000000000000000000000000000000000000000000 : Int).natAbs.log2 / 30 + 1) > 300) = false by decide +kernel]
    rfl
  have h0 : (0 : Int) < BI := by decide
  unfold pDivmod
  simp only
  rw [if_pos ⟨h0, h⟩]
theorem v_ofStr {m : Nat} (h : m < BN) : g1 dOfStr [.fz (.int (m : Int))] = some (.fz (.str (numL m))) := by
  have hl : ((m : Int)).natAbs.log2 < 1920 := by
    have h1 : ((m : Int)).natAbs.log2 < 220 := log_lt (by omega) (Int.lt_trans (Int.ofNat_lt.mpr h) (by decide +kernel)) (by omega)
    omega
  show (dOfStr (O.toD (.fz (.int (m : Int))))).map O.fz = _
  rw [toD_fz]
  show ((if ((m : Int)).natAbs.log2 < 1920 then some (D.str ((toString (m : Int) : PySem.Str)).cps.toList) else none) : Option Mn.D).map O.fz = _
  rw [if_pos hl]
  show some (O.fz (.str (TL.tl (Str.ofString (toString ((m : Nat) : Int)))))) = _
  rw [TL.tl_num]
theorem padded_tl (x : PySem.Str) (k : Nat) : (Builtin.Str.padded x k 0 48).cps.toList = List.replicate k 48 ++ x.cps.toList := by
  simp [Builtin.Str.padded]
theorem pad_ok : PadOk 64 = true := by decide +kernel
theorem zfill_tl {m : Nat} (h : m < BN) : (Txt.zfill (mk (numL m)) 64).cps.toList = List.replicate (64 - (numL m).length) 48 ++ numL m := by
  have hle : (numL m).length ≤ 64 := TL.numL_len (by omega) (by rw [BN_eq]; exact h)
  have hd := TL.numL_digits m
  unfold Txt.zfill
  rw [mk_len]
  by_cases h64 : (64 : Int) ≤ ((numL m).length : Int)
  · rw [if_pos h64, show 64 - (numL m).length = 0 by omega]
    rfl
  · rw [if_neg h64]
    unfold PySem.zfilled
    have hc : (mk (numL m)).cps[0]? = (numL m)[0]? := by simp [mk]
    have hx : ∃ c, (numL m)[0]? = some c ∧ 48 ≤ c ∧ c ≤ 57 := by
      have := numL_pos m
      exact ⟨(numL m)[0], List.getElem?_eq_getElem (by omega), hd _ (List.getElem_mem _)⟩
    obtain ⟨c, hc2, hc3, hc4⟩ := hx
    rw [hc, hc2]
    split
    · rename_i e; simp at e; omega
    · rename_i e; simp at e; omega
    · rw [padded_tl]
      rfl
theorem v_zfill' {m : Nat} (h : m < BN) {w : T} (hw : List.replicate (64 - (numL m).length) 48 ++ numL m = w) : tZfill (numL m) [.fz (.int 64)] = some (.fz (.str w)) := by
  subst hw
  rw [← zfill_tl h]
  unfold tZfill dZfill
  rw [toDs_cons, toDs_nil, toD_fz]
  simp only
  rw [if_pos pad_ok]
  rfl
theorem v_zfill {m k : Nat} (hk : k = 64) (h : m < BN) : tZfill (numL m) [.fz (.int 64)] = some (.fz (.str (fw k m))) :=
  v_zfill' h (by subst hk; exact (fw_pad 64 m (by omega) (by rw [BN_eq]; exact h)).symm)
end K33

set_option Elab.async false
set_option linter.all false
set_option maxRecDepth 100000
set_option maxHeartbeats 4000000
namespace K33
open Mn PySem PySem.Spec PyProof.Rows L2
open TL (numL joinL)
open PySem.NumText renaming AllDigits → AD, digitsVal → dv
theorem strsOf_map : ∀ ys : List T, strsOf (ys.map Mn.D.str) = some ys
  | [] => rfl
  | y :: ys => by
    show (strsOf (ys.map Mn.D.str)).map (y :: ·) = _
    rw [strsOf_map ys]; rfl
theorem v_join {sep : T} {o : O} {ys : List T} (ho : itemsOf o.toD = some (ys.map Mn.D.str)) (hl : (ys.map List.length).sum + ys.length * sep.length ≤ 16777216) : tJoin sep [o] = some (.fz (.str (joinL sep ys))) := by
  unfold tJoin dJoin
  rw [toDs_cons, toDs_nil]
  simp only [ho, Option.bind_some, strsOf_map]
  have h1 : ((ys.map mk).map (·.length)).sum + (ys.map mk).length * (mk sep).length ≤ 16777216 := by
    have e : (ys.map mk).map (·.length) = ys.map List.length := by
      rw [List.map_map]
      exact List.map_congr_left fun y _ => mk_len y
    rw [e, mk_len, List.length_map]
    exact hl
  rw [if_pos h1]
  simp only [Option.map_some]
  have h2 : Txt.join (mk sep) (ys.map mk) = ⟨(joinL sep ys).toArray⟩ := SX.join_S sep ys
  rw [h2]
theorem joinL_nil : ∀ ys : List T, joinL [] ys = ys.flatten
  | [] => rfl
  | [y] => by simp [TL.joinL]
  | x :: y :: r => by
    rw [TL.joinL, joinL_nil (y :: r)]
    simp
abbrev strO (cs : List T) : O := .lst (cs.map fun t => O.fz (.str t))
theorem strO_toD (cs : List T) : (strO cs).toD = .lst (cs.map Mn.D.str) := by
  rw [toD_lst, toDs_map' (fun t => Mn.D.str t)]
def wiC : M Bool := mAsB (mPrim pGe (mCons (mVar 0) (mCons (mLit (.int (10000000000000000000000000000000000000000000000000000000000000000))) mNil)))
def wiB : Ms := (mSeq (mAsg (tTup [(tName 0), (tName 2)]) (mPrim pDivmod (mCons (mVar 0) (mCons (mLit (.int (10000000000000000000000000000000000000000000000000000000000000000))) mNil))))
    (mDrop (mMeth uAppend 1 (mCons (mStrM tZfill (mPrim (g1 dOfStr) (mCons (mVar 2) mNil)) (mCons (mLit (.int 64)) mNil)) mNil))))
theorem wi_cond (q : Nat) (l : O) (x : Option O) : wiC [some (.fz (.int (q : Int))), some l, x] = .ok (decide (BN ≤ q)) [some (.fz (.int (q : Int))), some l, x] := by
  have : decide ((10000000000000000000000000000000000000000000000000000000000000000 : Int) ≤ (q : Int)) = decide (BN ≤ q) := by
    apply decide_eq_decide.mpr
    unfold BN
    omega
  simp [wiC, this]
theorem wi_turn {q k : Nat} {cs : List T} {x : Option O} (hk : k = 64) (hl : cs.length ≤ 1000) : wiB [some (.fz (.int (q : Int))), some (strO cs), x] = .next [some (.fz (.int ((q / BN : Nat) : Int))), some (strO (cs ++ [fw k (q % BN)])), some (.fz (.int ((q % BN : Nat) : Int)))] := by
  have e1 : (q : Int) / BI = ((q / BN : Nat) : Int) := by unfold BN BI; omega
  have e2 : (q : Int) % BI = ((q % BN : Nat) : Int) := by unfold BN BI; omega
  have hm : q % BN < BN := Nat.mod_lt _ (by decide)
  have h1 := v_divmod (q : Int)
  rw [e1, e2] at h1
  have h2 := v_ofStr hm
  have h3 := v_zfill hk hm
  have hz : cs.length < sizeLine := szu _ (by omega)
  unfold wiB
  refine x_seq (x_asg (x_p2 (ev_var rfl) (ev_lit _ _) h1) rfl) ?_
  have h4 : mStrM tZfill (mPrim (g1 dOfStr) (mCons (mVar 2) mNil)) (mCons (mLit (.int 64)) mNil) [some (.fz (.int ((q / BN : Nat) : Int))), some (strO cs), some (.fz (.int ((q % BN : Nat) : Int)))]
      = .ok (.fz (.str (fw k (q % BN)))) [some (.fz (.int ((q / BN : Nat) : Int))), some (strO cs), some (.fz (.int ((q % BN : Nat) : Int)))] := by
    rw [ev_strM, x_p1 (ev_var rfl) h2, bind_ok']
    simp only [str_fz, ev_cons, ev_lit, ev_nil, bind_ok', h3]
  have h5 := x_app (i := 1) (E := [some (.fz (.int ((q / BN : Nat) : Int))), some (strO cs), some (.fz (.int ((q % BN : Nat) : Int)))]) (xs := cs.map fun t => O.fz (.str t)) rfl h4 rfl (by simp; omega)
  refine Eq.trans h5 ?_
  simp [strO]
theorem wi_loop : ∀ (j q : Nat) (cs : List T) (x : Option O), q < BN ^ (j + 1) → cs.length + j ≤ 1000 → ∃ (q' : Nat) (cs' : List T) (x' : Option O) (m : Nat), wIter wiC wiB m [some (.fz (.int (q : Int))), some (strO cs), x] = some (.next [some (.fz (.int (q' : Int))), some (strO cs'), x']) ∧
    q' < BN ∧ numL q' ++ cs'.reverse.flatten = numL q ++ cs.reverse.flatten ∧ cs'.length ≤ cs.length + j ∧ ∀ t ∈ cs', t ∈ cs ∨ t.length = 64 := by
  intro j
  induction j with
  | zero =>
    intro q cs x hq hl
    have hq : q < BN := by simpa using hq
    refine ⟨q, cs, x, 1, ?_, hq, rfl, by omega, fun t h => .inl h⟩
    unfold wIter
    rw [wi_cond, decide_eq_false (by omega)]
  | succ j ih =>
    intro q cs x hq hl
    by_cases hb : BN ≤ q
    · obtain ⟨k, hk⟩ : ∃ k, k = 64 := ⟨_, rfl⟩
      have hq2 : q / BN < BN ^ (j + 1) := Nat.div_lt_of_lt_mul (by rw [Nat.pow_succ, Nat.mul_comm] at hq; exact hq)
      obtain ⟨q', cs', x', m, h1, h2, h3, h4, h5⟩ := ih (q / BN) (cs ++ [fw k (q % BN)]) (some (.fz (.int ((q % BN : Nat) : Int)))) hq2 (by simp; omega)
      refine ⟨q', cs', x', m + 1, ?_, h2, ?_, by simp at h4; omega, fun t ht => ?_⟩
      · unfold wIter
        rw [wi_cond, decide_eq_true hb]
        simp only
        rw [wi_turn hk (by omega)]
        exact h1
      · have hp : 10 ^ k = BN := by rw [hk]
        have hs := numL_split k q (by rw [hp]; exact hb)
        have hm := fw_mod k q
        rw [hp] at hs hm
        rw [h3, hs, ← hm]
        simp
      · rcases h5 t ht with h | h
        · rcases List.mem_append.mp h with h | h
          · exact .inl h
          · simp at h; subst h; exact .inr (by rw [fw_len, hk])
        · exact .inr h
    · refine ⟨q, cs, x, 1, ?_, by omega, rfl, by omega, fun t h => .inl h⟩
      unfold wIter
      rw [wi_cond, decide_eq_false hb]
theorem sum_len {B : Nat} : ∀ {cs : List T}, (∀ t ∈ cs, t.length ≤ B) → (cs.map List.length).sum ≤ cs.length * B
  | [], _ => by simp
  | c :: cs, h => by
    have h1 := h c (by simp)
    have h2 := sum_len (cs := cs) fun t ht => h t (by simp [ht])
    rw [List.map_cons, List.sum_cons, List.length_cons, Nat.add_mul, Nat.one_mul]
    omega
theorem wi_nat {n : Nat} (q : Nat) (hq : q < BN ^ 200) : sem (n + 1) 0 [.fz (.int (q : Int))] = .ok (.fz (.str (numL q))) none := by
  obtain ⟨q', cs', x', m, h1, h2, h3, h4, h5⟩ := wi_loop 199 q [] none hq (by simp)
  simp only [List.length_nil, Nat.zero_add] at h4
  have hw : mWhile wiC wiB [some (.fz (.int (q : Int))), some (strO []), none] = .next [some (.fz (.int (q' : Int))), some (strO cs'), x'] := mWhile_of h1
  have h0 : mIf (mAsB (mPrim pLt (mCons (mVar 0) (mCons (mLit (.int 0)) mNil)))) (mRet (mPrim pAdd (mCons (mLit (.str [45])) (mCons (mCall (sem n 0) (mCons (mPrim pNeg (mCons (mVar 0) mNil)) mNil)) mNil)))) mDone [some (.fz (.int (q : Int))), none, none] = .next [some (.fz (.int (q : Int))), none, none] :=
    x_ifF (E1 := [some (.fz (.int (q : Int))), none, none]) (by
      have : decide ((q : Int) < 0) = false := decide_eq_false (by omega)
      simp [this]) rfl
  have ha : mAsg (tName 1) (mPrim pLst mNil) [some (.fz (.int (q : Int))), none, none] = .next [some (.fz (.int (q : Int))), some (strO []), none] := by
    refine x_asg (o := .lst []) (E1 := [some (.fz (.int (q : Int))), none, none]) ?_ rfl
    simp
  have hs2 := v_ofStr h2
  have hap : mDrop (mMeth uAppend 1 (mCons (mPrim (g1 dOfStr) (mCons (mVar 0) mNil)) mNil)) [some (.fz (.int (q' : Int))), some (strO cs'), x'] = .next [some (.fz (.int (q' : Int))), some (strO (cs' ++ [numL q'])), x'] := by
    refine Eq.trans (x_app (i := 1) (xs := cs'.map fun t => O.fz (.str t)) rfl (x_p1 (ev_var rfl) hs2) rfl (by simp; omega)) ?_
    simp [strO]
  have hr : mRev (mVar 1) [some (.fz (.int (q' : Int))), some (strO (cs' ++ [numL q'])), x'] = .ok (.lst (((cs' ++ [numL q']).map Mn.D.str).reverse.map O.fz)) [some (.fz (.int (q' : Int))), some (.fz (.lst ((cs' ++ [numL q']).map Mn.D.str))), x'] := by
    unfold mRev
    rw [ev_varL (xs := (cs' ++ [numL q']).map fun t => O.fz (.str t)) rfl, bind_ok', toDs_map' (fun t => Mn.D.str t), toD_fz]
    rfl
  have hj := v_join (sep := []) (o := .lst (((cs' ++ [numL q']).map Mn.D.str).reverse.map O.fz)) (ys := (cs' ++ [numL q']).reverse) (by rw [toD_lst, toDs_map, List.map_reverse]; rfl) (by
    have hlen : (numL q').length ≤ 64 := TL.numL_len (by omega) (by rw [BN_eq]; exact h2)
    have := sum_len (cs := (cs' ++ [numL q']).reverse) (B := 64) (fun t ht => by
      rw [List.mem_reverse] at ht
      rcases List.mem_append.mp ht with h | h
      · rcases h5 t h with h | h
        · simp at h
        · omega
      · simp at h; subst h; exact hlen)
    simp at this ⊢
    omega)
  rw [joinL_nil, List.reverse_append] at hj
  have hfin : ([numL q'].reverse ++ cs'.reverse).flatten = numL q := by
    simpa using h3
  rw [hfin] at hj
  have hret : mRet (mStrM tJoin (mLit (.str [])) (mCons (mRev (mVar 1)) mNil)) [some (.fz (.int (q' : Int))), some (strO (cs' ++ [numL q'])), x'] = .ret (.fz (.str (numL q))) [some (.fz (.int (q' : Int))), some (.fz (.lst ((cs' ++ [numL q']).map Mn.D.str))), x'] := by
    refine x_ret ?_
    rw [ev_strM, ev_lit, bind_ok']
    simp only [str_fz]
    rw [ev_cons, hr, bind_ok', ev_nil, bind_ok', bind_ok']
    simp only [hj]
  rw [e0]
  exact fn_ret (x_seq h0 (x_seq ha (x_seq hw (x_seq hap hret))))
theorem wi_neg {n : Nat} (q : Nat) (hq : q < BN ^ 200) (h0 : 0 < q) : sem (n + 2) 0 [.fz (.int (-(q : Int)))] = .ok (.fz (.str (45 :: numL q))) none := by
  have h1 := wi_nat (n := n) q hq
  have hlen : (numL q).length ≤ 200 * 64 := TL.numL_len (by omega) (by rw [Nat.mul_comm, Nat.pow_mul, BN_eq]; exact hq)
  have ha := v_addS (s := [45]) (t := numL q) (by simp; omega)
  rw [e0]
  refine fn_ret (x_seqR (x_ifT (E1 := [some (.fz (.int (-(q : Int)))), none, none]) ?_ (x_ret (E1 := [some (.fz (.int (-(q : Int)))), none, none]) (x_p2 (ev_lit _ _) (x_c1 (s := none) (x_p1 (ev_var rfl) (v_neg _)) ?_) ha))))
  · have : decide (-(q : Int) < 0) = true := decide_eq_true (by omega)
    simp [this]
    exact h0
  · rw [Int.neg_neg]; exact h1
end K33

set_option Elab.async false
set_option linter.all false
set_option maxRecDepth 100000
set_option maxHeartbeats 4000000
namespace K33
open Mn PySem PySem.Spec PyProof.Rows L2
open TL (numL joinL)
open PySem.NumText renaming AllDigits → AD, digitsVal → dv
/-! read_integer -/
def isD (c : Nat) : Bool := decide (48 ≤ c) && decide (c ≤ 57)
theorem isD_iff {c : Nat} : isD c = true ↔ 48 ≤ c ∧ c ≤ 57 := by simp [isD]
theorem all_AD {t : T} : t.all isD = true ↔ AD t := by
  rw [List.all_eq_true]
  exact ⟨fun h c hc => isD_iff.mp (h c hc), fun h c hc => isD_iff.mpr (h c hc)⟩
def bodyI (t : T) : T := if t.take 1 = [45] then t.drop 1 else t
def okI (t : T) : Bool := !(decide (bodyI t = []) || (decide ((bodyI t).head? = some 48) && !decide (t = [48]))) && (bodyI t).all isD
def valI (t : T) : Int := if t.head? = some 45 then -((dv (bodyI t) : Nat) : Int) else ((dv (bodyI t) : Nat) : Int)
theorem bodyI_len (t : T) : (bodyI t).length ≤ t.length := by
  unfold bodyI
  split
  · simp
  · exact Nat.le_refl _
theorem szS (n : Nat) (h : n ≤ 16000000) : n ≤ sizeLine := by rw [sizeLine_eq]; omega
theorem szSu (n : Nat) (h : n ≤ 16000000) : n < sizeLine := by rw [sizeLine_eq]; omega
theorem cut_to {s : T} (k : Nat) (hl : s.length ≤ 16000000) : cutO none (some (k : Int)) (.str s) = some (.fz (.str (s.take k))) := by
  unfold cutO
  simp only
  rw [if_pos (szS _ hl), cutTo]
theorem cut_from {s : T} (k : Nat) (hl : s.length ≤ 16000000) : cutO (some (k : Int)) none (.str s) = some (.fz (.str (s.drop k))) := by
  unfold cutO cutL
  simp only
  rw [if_pos (szS _ hl), HT.sIx_nat, HT.sIx_none]
  by_cases h : k ≤ s.length
  · rw [Nat.min_eq_left h, List.take_of_length_le (by simp)]
  · rw [Nat.min_eq_right (by omega), List.drop_of_length_le (Nat.le_refl _), List.drop_of_length_le (by omega)]
    simp
theorem cut_mid {s : T} (i j : Nat) (hl : s.length ≤ 16000000) : cutO (some (i : Int)) (some (j : Int)) (.str s) = some (.fz (.str ((s.drop i).take (j - i)))) := by
  unfold cutO cutL
  simp only
  rw [if_pos (szS _ hl), HT.sIx_nat, HT.sIx_nat]
  by_cases h : i ≤ s.length
  · rw [Nat.min_eq_left h]
    by_cases h2 : j ≤ s.length
    · rw [Nat.min_eq_left h2]
    · rw [Nat.min_eq_right (by omega), List.take_of_length_le (by simp), List.take_of_length_le (by simp; omega)]
  · rw [show min i s.length = s.length from Nat.min_eq_right (by omega), List.drop_of_length_le (Nat.le_refl s.length), List.drop_of_length_le (show s.length ≤ i by omega)]
    simp
theorem int_at {i : Int} (E : En) : mPart (mLit (.int i)) E = .ok (some i) E := rfl
theorem part_var {i : Nat} {k : Int} {E : En} (h : E[i]? = some (some (.fz (.int k)))) : mPart (mVar i) E = .ok (some k) E := by
  rw [ev_part, ev_var h]
  rfl
theorem item_str {s : T} {i c : Nat} (h : s[i]? = some c) (hl : s.length ≤ 16000000) : itemD (.str s) (.int (i : Int)) = some (.str [c]) := by
  unfold itemD
  simp only
  have hi : i < s.length := (List.getElem?_eq_some_iff.mp h).1
  rw [if_pos (szS _ hl), atI_nat s (by omega) (by omega), Int.toNat_natCast, h]
  rfl
theorem idx_str {i j c : Nat} {s : T} {mk : M O} {E E1 : En} (h : E[i]? = some (some (.fz (.str s)))) (hk : mk E = .ok (.fz (.int (j : Int))) E1) (h1 : E1[i]? = some (some (.fz (.str s)))) (hc : s[j]? = some c) (hl : s.length ≤ 16000000) : mIdx i mk E = .ok (.fz (.str [c])) E1 := by
  rw [ev_idx _ h, hk, bind_ok']
  simp only [h1, toD_fz, at_F, item_str hc hl, Option.map_some]
theorem len_str {i : Nat} {s : T} {E : En} (h : E[i]? = some (some (.fz (.str s)))) (hl : s.length ≤ 16000000) : mRd1 dLen i E = .ok (.fz (.int (s.length : Int))) E := by
  rw [ev_rd _ h]
  simp only [toD_fz, dLen]
  rw [if_pos (szS _ hl)]
theorem v_eqS (i j : T) : g2 (qEq false) [.fz (.str i), .fz (.str j)] = some (.fz (.bl (decide (i = j)))) := by simp
theorem v_neS (i j : T) : g2 (qEq true) [.fz (.str i), .fz (.str j)] = some (.fz (.bl (!decide (i = j)))) := by simp
theorem x_asB {m : M O} {E E1 : En} {b : Bool} (h : m E = .ok (.fz (.bl b)) E1) : mAsB m E = .ok b E1 := by rw [ev_asB, h]; rfl
theorem x_or {a b : M Bool} {E E1 E2 : En} {x y : Bool} (h1 : a E = .ok x E1) (h2 : x = false → b E1 = .ok y E2) (he : x = true → E1 = E2) : mOr a b E = .ok (x || y) E2 := by
  rw [ev_or, h1, bind_ok']
  cases x with
  | true => rw [he rfl]; rfl
  | false => simpa using h2 rfl
theorem x_and {a b : M Bool} {E E1 E2 : En} {x y : Bool} (h1 : a E = .ok x E1) (h2 : x = true → b E1 = .ok y E2) (he : x = false → E1 = E2) : mAnd a b E = .ok (x && y) E2 := by
  rw [ev_and, h1, bind_ok']
  cases x with
  | false => rw [he rfl]; rfl
  | true => simpa using h2 rfl
theorem x_seqE {a b : Ms} {E E1 : En} {c : Nat} (h1 : a E = .exc c E1) : mSeq a b E = .exc c E1 := by rw [ev_seq, h1, seq_exc']
theorem fn_exc {k c : Nat} {B : Ms} {os : List O} {E : En} {io : Bool} (h : B (os.map some ++ List.replicate k none) = .exc c E) : fnOf io k B os = .exc c := by
  simp only [fnOf]
  rw [h]
def DG : T := [48, 49, 50, 51, 52, 53, 54, 55, 56, 57]
theorem mem_DG {c : Nat} : decide (c ∈ DG) = isD c := by
  rw [Bool.eq_iff_iff, isD_iff, decide_eq_true_eq]
  unfold DG
  simp
  omega
def riB : Ms := (mIf (mAsB (mPrim (g2 (qIn true)) (mCons (mVar 2) (mCons (mLit (.str [48, 49, 50, 51, 52, 53, 54, 55, 56, 57])) mNil))))
    (mRaise 1000)
    mDone)
theorem ri_turn {c : Nat} {a b : Option O} {R : En} : riB (a :: b :: some (.fz (.str [c])) :: R) = if isD c then .next (a :: b :: some (.fz (.str [c])) :: R) else .exc 1000 (a :: b :: some (.fz (.str [c])) :: R) := by
  have hq : g2 (qIn true) [.fz (.str [c]), .fz (.str [48, 49, 50, 51, 52, 53, 54, 55, 56, 57])] = some (.fz (.bl (!isD c))) := by
    rw [← mem_DG]
    simp [qIn, dIn, DG]
  have hc : mAsB (mPrim (g2 (qIn true)) (mCons (mVar 2) (mCons (mLit (.str [48, 49, 50, 51, 52, 53, 54, 55, 56, 57])) mNil))) (a :: b :: some (.fz (.str [c])) :: R) = .ok (!isD c) (a :: b :: some (.fz (.str [c])) :: R) :=
    x_asB (x_p2 (ev_var rfl) (ev_lit _ _) hq)
  unfold riB
  rw [ev_if, hc, fl_ok']
  cases isD c <;> rfl
theorem scan_ok {a b : Option O} {R : En} : ∀ (s : T) (x : Option O), s.all isD = true → ∃ x', fIter (tName 2) riB (s.map fun c => .str [c]) (a :: b :: x :: R) = .next (a :: b :: x' :: R)
  | [], x, _ => ⟨x, rfl⟩
  | c :: s, x, h => by
    rw [List.all_cons, Bool.and_eq_true] at h
    obtain ⟨x', e⟩ := scan_ok (a := a) (b := b) (R := R) s (some (.fz (.str [c]))) h.2
    refine ⟨x', ?_⟩
    rw [List.map_cons]
    unfold fIter
    rw [ev_name, fl_ok']
    simp only [List.set_cons_succ, List.set_cons_zero]
    rw [ri_turn, if_pos h.1]
    exact e
theorem scan_bad {a b : Option O} {R : En} : ∀ (s : T) (x : Option O), s.all isD = false → ∃ E, fIter (tName 2) riB (s.map fun c => .str [c]) (a :: b :: x :: R) = .exc 1000 E
  | [], x, h => by simp at h
  | c :: s, x, h => by
    rw [List.map_cons]
    unfold fIter
    rw [ev_name, fl_ok']
    simp only [List.set_cons_succ, List.set_cons_zero]
    rw [ri_turn]
    by_cases hc : isD c = true
    · rw [if_pos hc]
      rw [List.all_cons, hc, Bool.true_and] at h
      obtain ⟨E, e⟩ := scan_bad (a := a) (b := b) (R := R) s (some (.fz (.str [c]))) h
      exact ⟨E, e⟩
    · rw [if_neg hc]
      exact ⟨_, rfl⟩
theorem v_rng3 {h L m : Nat} (hm : L = h + 64 * m) (hl : L ≤ 100000000) : rng3 [.fz (.int (h : Int)), .fz (.int (L : Int)), .fz (.int 64)] = some ((List.range m).map fun (i : Nat) => Mn.D.int ((h : Int) + (i : Int) * 64)) := by
  have hs : Builtin.Range.rangeSize (h : Int) (L : Int) 64 = (m : Int) := by
    unfold Builtin.Range.rangeSize
    rw [if_pos (by decide)]
    split <;> omega
  have hf : ∀ x : Int, -1000 ≤ x → x ≤ 1000000000 → Builtin.Range.rangeFitsLong x = true := fun x h1 h2 => by
    unfold Builtin.Range.rangeFitsLong
    simp
    omega
  have hsm : Builtin.Range.small (h : Int) (L : Int) 64 = true := by
    unfold Builtin.Range.small
    rw [hs, hf _ (by omega) (by omega), hf _ (by omega) (by omega), hf _ (by omega) (by omega), hf _ (by omega) (by omega)]
    simp
    right
    exact hf _ (by omega) (by omega)
  unfold rng3
  simp only
  rw [if_pos ⟨by decide, by decide, hsm, by rw [hs]; omega⟩, hs]
  simp
theorem dv_lt {s : T} (h : AD s) : dv s < 10 ^ s.length := by
  induction s with
  | nil => simp [PySem.NumText.digitsVal]
  | cons c s ih =>
    have hc := h c (by simp)
    have h2 := ih fun d hd => h d (by simp [hd])
    rw [show c :: s = [c] ++ s from rfl, dv_append, List.length_append, Nat.pow_add]
    have h3 : dv [c] ≤ 9 := by simp [PySem.NumText.digitsVal]; omega
    have := Nat.mul_le_mul h3 (Nat.le_refl (10 ^ s.length))
    simp
    omega
theorem log_dv {s : T} (h : AD s) (hl : s.length ≤ 200000) : ((dv s : Nat) : Int).natAbs.log2 < 900000 := by
  have h1 := dv_lt h
  have h2 : 10 ^ s.length ≤ 2 ^ (4 * s.length) := by
    rw [Nat.pow_mul]
    exact Nat.pow_le_pow_left (by decide) _
  have h3 : ((dv s : Nat) : Int).natAbs.log2 < 4 * s.length + 1 := by
    rw [Int.natAbs_natCast]
    by_cases h0 : dv s = 0
    · rw [h0]; simp
    · exact (Nat.log2_lt h0).mpr (Nat.lt_of_lt_of_le (Nat.lt_of_lt_of_le h1 h2) (Nat.pow_le_pow_right (by omega) (by omega)))
  omega
theorem v_ofText {s : T} (h : AD s) (h0 : s ≠ []) (hl : s.length ≤ 640) : g1 dOfInt [.fz (.str s)] = some (.fz (.int ((dv s : Nat) : Int))) := by
  have e : intText? (mk s) = some ((dv s : Nat) : Int) := SX.int_S (all_AD.mpr h) h0 (by omega)
  show (dOfInt (O.toD (.fz (.str s)))).map O.fz = _
  rw [toD_fz]
  unfold dOfInt
  simp only
  rw [if_pos hl, e]
  rfl
def rcB : Ms := (mAsg (tName 4) (mPrim pAdd (mCons (mPrim pMulI (mCons (mVar 4) (mCons (mLit (.int (10000000000000000000000000000000000000000000000000000000000000000))) mNil))) (mCons (mPrim (g1 dOfInt) (mCons (mSlice (mVar 1) (mPart (mVar 5)) (mPart (mPrim pAdd (mCons (mVar 5) (mCons (mLit (.int 64)) mNil))))) mNil)) mNil))))
theorem rc_turn {s : T} {a : Nat} {t x h : Option O} (hs : AD s) (ha : a + 64 ≤ s.length) (hl : s.length ≤ 100000) :
    rcB [t, some (.fz (.str s)), x, h, some (.fz (.int ((dv (s.take a) : Nat) : Int))), some (.fz (.int (a : Int)))] = .next [t, some (.fz (.str s)), x, h, some (.fz (.int ((dv (s.take (a + 64)) : Nat) : Int))), some (.fz (.int (a : Int)))] := by
  have hta : AD (s.take a) := fun c hc => hs c (List.mem_of_mem_take hc)
  have hmul := v_mulI (i := ((dv (s.take a) : Nat) : Int)) (j := BI) (by
    have h1 := log_dv hta (by simp; omega)
    have h2 : (BI).natAbs.log2 < 1000 := by decide +kernel
    omega)
  have hch : AD ((s.drop a).take 64) := fun c hc => hs c (List.mem_of_mem_drop (List.mem_of_mem_take hc))
  have hcl : ((s.drop a).take 64).length = 64 := by simp; omega
  have hcut := cut_mid (s := s) a (a + 64) (by omega)
  rw [show a + 64 - a = 64 by omega] at hcut
  have hint := v_ofText hch (fun e => by rw [e] at hcl; simp at hcl) (by omega)
  have hval : ((dv (s.take a) : Nat) : Int) * BI + ((dv ((s.drop a).take 64) : Nat) : Int) = ((dv (s.take (a + 64)) : Nat) : Int) := by
    rw [List.take_add, dv_append, hcl, BN_eq]
    unfold BI BN
    omega
  have hadd : pAdd [.fz (.int ((dv (s.take a) : Nat) * BI)), .fz (.int ((dv ((s.drop a).take 64) : Nat) : Int))] = some (.fz (.int ((dv (s.take (a + 64)) : Nat) : Int))) := by
    rw [v_addI, hval]
  have hsl : mSlice (mVar 1) (mPart (mVar 5)) (mPart (mPrim pAdd (mCons (mVar 5) (mCons (mLit (.int 64)) mNil)))) [t, some (.fz (.str s)), x, h, some (.fz (.int ((dv (s.take a) : Nat) : Int))), some (.fz (.int (a : Int)))]
      = .ok (.fz (.str ((s.drop a).take 64))) [t, some (.fz (.str s)), x, h, some (.fz (.int ((dv (s.take a) : Nat) : Int))), some (.fz (.int (a : Int)))] := by
    have h5 : mPart (mPrim pAdd (mCons (mVar 5) (mCons (mLit (.int 64)) mNil))) [t, some (.fz (.str s)), x, h, some (.fz (.int ((dv (s.take a) : Nat) : Int))), some (.fz (.int (a : Int)))] = .ok (some ((a + 64 : Nat) : Int)) [t, some (.fz (.str s)), x, h, some (.fz (.int ((dv (s.take a) : Nat) : Int))), some (.fz (.int (a : Int)))] := by
      rw [ev_part, x_p2 (ev_var rfl) (ev_lit _ _) (v_addI _ _)]
      rfl
    rw [ev_slice, ev_var (d := .str s) rfl, bind_ok', part_var rfl, bind_ok', h5, bind_ok']
    simp only [toD_fz, hcut]
  unfold rcB
  exact x_asg (x_p2 (x_p2 (ev_var rfl) (ev_lit _ _) hmul) (x_p1 hsl hint) hadd) rfl
theorem rc_loop {s : T} {hd : Nat} {t x h : Option O} (hs : AD s) (hl : s.length ≤ 100000) : ∀ (m k : Nat) (y : Option O), hd + 64 * (k + m) ≤ s.length →
    ∃ y', fIter (tName 5) rcB ((List.range' k m).map fun (i : Nat) => Mn.D.int ((hd : Int) + (i : Int) * 64)) [t, some (.fz (.str s)), x, h, some (.fz (.int ((dv (s.take (hd + 64 * k)) : Nat) : Int))), y] = .next [t, some (.fz (.str s)), x, h, some (.fz (.int ((dv (s.take (hd + 64 * (k + m))) : Nat) : Int))), y']
  | 0, k, y, _ => ⟨y, rfl⟩
  | m + 1, k, y, hle => by
    have hc : ((hd : Int) + (k : Int) * 64) = ((hd + 64 * k : Nat) : Int) := by omega
    obtain ⟨y', e⟩ := rc_loop (t := t) (x := x) (h := h) (hd := hd) hs hl m (k + 1) (some (.fz (.int ((hd + 64 * k : Nat) : Int)))) (by omega)
    refine ⟨y', ?_⟩
    rw [List.range'_succ, List.map_cons]
    unfold fIter
    rw [ev_name, fl_ok', hc]
    simp only [List.set_cons_succ, List.set_cons_zero]
    rw [rc_turn hs (by omega) hl]
    rw [show hd + 64 * k + 64 = hd + 64 * (k + 1) by omega, show k + (m + 1) = k + 1 + m by omega]
    exact e
end K33

set_option Elab.async false
set_option linter.all false
set_option maxRecDepth 100000
set_option maxHeartbeats 4000000
namespace K33
open Mn PySem PySem.Spec PyProof.Rows L2
open TL (numL joinL)
open PySem.NumText renaming AllDigits → AD, digitsVal → dv
def badC (t : T) : Bool := decide (bodyI t = []) || (decide ((bodyI t).head? = some 48) && !decide (t = [48]))
theorem okI_eq (t : T) : okI t = (!badC t && (bodyI t).all isD) := rfl
abbrev E6 (t d : T) (x h n y : Option O) : En := [some (.fz (.str t)), some (.fz (.str d)), x, h, n, y]
theorem ri1 (t : T) : mAsg (tName 1) (mVar 0) [some (.fz (.str t)), none, none, none, none, none] = .next (E6 t t none none none none) := x_asg (ev_var rfl) rfl
theorem ri2 (t : T) (hl : t.length ≤ 100000) : mIf (mAsB (mPrim (g2 (qEq false)) (mCons (mSlice (mVar 0) mNo (mPart (mLit (.int 1)))) (mCons (mLit (.str [45])) mNil))))
    (mAsg (tName 1) (mSlice (mVar 0) (mPart (mLit (.int 1))) mNo))
    mDone (E6 t t none none none none) = .next (E6 t (bodyI t) none none none none) := by
  have h1 : mSlice (mVar 0) mNo (mPart (mLit (.int 1))) (E6 t t none none none none) = .ok (.fz (.str (t.take 1))) (E6 t t none none none none) := by
    have hc := cut_to (s := t) 1 (by omega)
    rw [ev_slice, ev_var (d := .str t) rfl, bind_ok', ev_no, bind_ok', int_at, bind_ok']
    simp only [toD_fz]
    rw [show ((1 : Int)) = ((1 : Nat) : Int) from rfl, hc]
  have h2 : mSlice (mVar 0) (mPart (mLit (.int 1))) mNo (E6 t t none none none none) = .ok (.fz (.str (t.drop 1))) (E6 t t none none none none) := by
    have hc := cut_from (s := t) 1 (by omega)
    rw [ev_slice, ev_var (d := .str t) rfl, bind_ok', int_at, bind_ok', ev_no, bind_ok']
    simp only [toD_fz]
    rw [show ((1 : Int)) = ((1 : Nat) : Int) from rfl, hc]
  have hc := x_asB (x_p2 h1 (ev_lit (.str [45]) _) (v_eqS _ _))
  unfold bodyI
  by_cases h : t.take 1 = [45]
  · rw [if_pos h]
    rw [decide_eq_true h] at hc
    exact x_ifT hc (x_asg h2 rfl)
  · rw [if_neg h]
    rw [decide_eq_false h] at hc
    exact x_ifF hc rfl
theorem ri3 (t : T) (hl : t.length ≤ 100000) : (mOr (mAsB (mPrim (g2 (qEq false)) (mCons (mVar 1) (mCons (mLit (.str [])) mNil)))) (mAnd (mAsB (mPrim (g2 (qEq false)) (mCons (mIdx 1 (mLit (.int 0))) (mCons (mLit (.str [48])) mNil)))) (mAsB (mPrim (g2 (qEq true)) (mCons (mVar 0) (mCons (mLit (.str [48])) mNil)))))) (E6 t (bodyI t) none none none none)
    = .ok (badC t) (E6 t (bodyI t) none none none none) := by
  have hb := bodyI_len t
  refine x_or (x_asB (x_p2 (ev_var rfl) (ev_lit (.str []) _) (v_eqS _ _))) (fun h0 => ?_) (fun _ => rfl)
  have h0 : bodyI t ≠ [] := of_decide_eq_false h0
  cases hd : bodyI t with
  | nil => exact absurd hd h0
  | cons c r =>
    rw [hd] at hb
    have hi : mIdx 1 (mLit (.int 0)) (E6 t (c :: r) none none none none) = .ok (.fz (.str [c])) (E6 t (c :: r) none none none none) := idx_str (j := 0) rfl rfl rfl rfl (by omega)
    have h1 := x_asB (x_p2 hi (ev_lit (.str [48]) _) (v_eqS _ _))
    have e : decide ([c] = [48]) = decide ((c :: r).head? = some 48) := by simp
    rw [e] at h1
    exact x_and h1 (fun _ => x_asB (x_p2 (ev_var rfl) (ev_lit (.str [48]) _) (v_neS _ _))) (fun _ => rfl)
theorem it_str (s : T) : itD (.str s) = some (s.map fun c => .str [c]) := rfl
theorem read_bad {n : Nat} {t : T} (h : okI t = false) (hl : t.length ≤ 100000) : sem (n + 1) 1 [.fz (.str t)] = .exc 1000 := by
  rw [e1]
  by_cases hb : badC t = true
  · have h3 := ri3 t hl
    rw [hb] at h3
    exact fn_exc (x_seq (ri1 t) (x_seq (ri2 t hl) (x_seqE (E1 := E6 t (bodyI t) none none none none) (x_ifT h3 rfl))))
  · have hb : badC t = false := by simpa using hb
    have h3 := ri3 t hl
    rw [hb] at h3
    rw [okI_eq, hb] at h
    have ha : (bodyI t).all isD = false := by simpa using h
    obtain ⟨E, e⟩ := scan_bad (a := some (.fz (.str t))) (b := some (.fz (.str (bodyI t)))) (R := [none, none, none]) (bodyI t) none ha
    exact fn_exc (x_seq (ri1 t) (x_seq (ri2 t hl) (x_seq (x_ifF h3 rfl) (x_seqE (x_for (x_val (ev_var rfl) (by rw [toD_fz]; exact it_str _)) e)))))
theorem read_ok {n : Nat} {t : T} (h : okI t = true) (hl : t.length ≤ 100000) : sem (n + 1) 1 [.fz (.str t)] = .ok (.fz (.int (valI t))) none := by
  rw [okI_eq, Bool.and_eq_true] at h
  have hb : badC t = false := by simpa using h.1
  have ha := h.2
  have hAD := all_AD.mp ha
  have h3 := ri3 t hl
  rw [hb] at h3
  have hbl := bodyI_len t
  have hd0 : bodyI t ≠ [] := fun e => by
    have : badC t = true := by unfold badC; rw [decide_eq_true e]; rfl
    rw [hb] at this; cases this
  have ht0 : t ≠ [] := fun e => by subst e; exact hd0 rfl
  obtain ⟨x', e4⟩ := scan_ok (a := some (.fz (.str t))) (b := some (.fz (.str (bodyI t)))) (R := [none, none, none]) (bodyI t) none ha
  generalize hd : bodyI t = d at *
  have h4 : mFor (tName 2) (iVal (mVar 1)) riB (E6 t d none none none none) = .next (E6 t d x' none none none) := x_for (x_val (ev_var rfl) (by rw [toD_fz]; exact it_str _)) e4
  have hmod : pMod [.fz (.int (d.length : Int)), .fz (.int 64)] = some (.fz (.int ((d.length % 64 : Nat) : Int))) := by
    rw [Mn.v_mod (i := (d.length : Int)) (j := 64) (by omega)]
    congr 3
  have h5 : mAsg (tName 3) (mPrim pMod (mCons (mRd1 dLen 1) (mCons (mLit (.int 64)) mNil))) (E6 t d x' none none none) = .next (E6 t d x' (some (.fz (.int ((d.length % 64 : Nat) : Int)))) none none) :=
    x_asg (x_p2 (len_str rfl (by omega)) (ev_lit _ _) hmod) rfl
  generalize hh : d.length % 64 = hd' at *
  have h6 : mAsg (tName 4) (mLit (.int 0)) (E6 t d x' (some (.fz (.int (hd' : Int)))) none none) = .next (E6 t d x' (some (.fz (.int (hd' : Int)))) (some (.fz (.int 0))) none) := x_asg (ev_lit _ _) rfl
  have htk : AD (d.take hd') := fun c hc => hAD c (List.mem_of_mem_take hc)
  have hlt : (d.take hd').length = hd' := by
    rw [List.length_take, Nat.min_eq_left]
    rw [← hh]; exact Nat.mod_le _ _
  have h64 : hd' < 64 := by rw [← hh]; exact Nat.mod_lt _ (by omega)
  have h7 : mIf (mAsB (mPrim pGt (mCons (mVar 3) (mCons (mLit (.int 0)) mNil)))) (mAsg (tName 4) (mPrim (g1 dOfInt) (mCons (mSlice (mVar 1) mNo (mPart (mVar 3))) mNil))) mDone (E6 t d x' (some (.fz (.int (hd' : Int)))) (some (.fz (.int 0))) none)
      = .next (E6 t d x' (some (.fz (.int (hd' : Int)))) (some (.fz (.int ((dv (d.take hd') : Nat) : Int)))) none) := by
    have hc := x_asB (x_p2 (E := E6 t d x' (some (.fz (.int (hd' : Int)))) (some (.fz (.int 0))) none) (m1 := mVar 3) (m2 := mLit (.int 0)) (ev_var rfl) (ev_lit _ _) (v_gt (hd' : Int) 0))
    by_cases h0 : 0 < hd'
    · rw [show decide ((0 : Int) < (hd' : Int)) = true from decide_eq_true (by omega)] at hc
      refine x_ifT hc (x_asg (x_p1 (o1 := .fz (.str (d.take hd'))) (E1 := E6 t d x' (some (.fz (.int (hd' : Int)))) (some (.fz (.int 0))) none) ?_ (v_ofText htk (fun e => by rw [e] at hlt; simp at hlt; omega) (by omega))) rfl)
      rw [ev_slice, ev_var (d := .str d) rfl, bind_ok', ev_no, bind_ok', part_var rfl, bind_ok']
      simp only [toD_fz, cut_to (s := d) hd' (by omega)]
    · rw [show decide ((0 : Int) < (hd' : Int)) = false from decide_eq_false (by omega)] at hc
      have : hd' = 0 := by omega
      subst this
      exact x_ifF hc rfl
  have hr := v_rng3 (h := hd') (L := d.length) (m := d.length / 64) (by omega) (by omega)
  have e8 := rc_loop (s := d) (hd := hd') (t := some (.fz (.str t))) (x := x') (h := some (.fz (.int (hd' : Int)))) hAD (by omega) (d.length / 64) 0 none (by omega)
  obtain ⟨y', e8⟩ := e8
  rw [show hd' + 64 * 0 = hd' by omega, ← List.range_eq_range', show hd' + 64 * (0 + d.length / 64) = d.length by omega, List.take_length] at e8
  have h8 : mFor (tName 5) (iArgs rng3 (mCons (mVar 3) (mCons (mRd1 dLen 1) (mCons (mLit (.int 64)) mNil)))) rcB (E6 t d x' (some (.fz (.int (hd' : Int)))) (some (.fz (.int ((dv (d.take hd') : Nat) : Int)))) none)
      = .next (E6 t d x' (some (.fz (.int (hd' : Int)))) (some (.fz (.int ((dv d : Nat) : Int)))) y') := by
    refine x_for (E1 := E6 t d x' (some (.fz (.int (hd' : Int)))) (some (.fz (.int ((dv (d.take hd') : Nat) : Int)))) none) ?_ e8
    rw [ev_args, ev_cons, ev_var (d := .int (hd' : Int)) rfl, bind_ok', ev_cons, len_str (s := d) rfl (by omega), bind_ok', ev_cons, ev_lit, bind_ok', ev_nil, bind_ok', bind_ok', bind_ok', bind_ok']
    simp only [hr]
  obtain ⟨c, r, ht⟩ : ∃ c r, t = c :: r := by
    cases t with
    | nil => exact absurd rfl ht0
    | cons c r => exact ⟨c, r, rfl⟩
  have hi : mIdx 0 (mLit (.int 0)) (E6 t d x' (some (.fz (.int (hd' : Int)))) (some (.fz (.int ((dv d : Nat) : Int)))) y') = .ok (.fz (.str [c])) (E6 t d x' (some (.fz (.int (hd' : Int)))) (some (.fz (.int ((dv d : Nat) : Int)))) y') :=
    idx_str (j := 0) (s := t) rfl rfl rfl (by rw [ht]; rfl) (by omega)
  have h9 := x_asB (x_p2 hi (ev_lit (.str [45]) _) (v_eqS _ _))
  rw [e1]
  have hv : valI t = if c = 45 then -((dv d : Nat) : Int) else ((dv d : Nat) : Int) := by
    unfold valI
    rw [hd, ht]
    simp
  rw [hv]
  by_cases h45 : c = 45
  · rw [if_pos h45]
    rw [show decide ([c] = [45]) = true by simp [h45]] at h9
    exact fn_ret (x_seq (ri1 t) (x_seq (by rw [ri2 t hl, hd]) (x_seq (x_ifF h3 rfl) (x_seq h4 (x_seq h5 (x_seq h6 (x_seq h7 (x_seq h8 (x_seqR (x_ifT h9 (x_ret (x_p1 (ev_var rfl) (v_neg _)))))))))))))
  · rw [if_neg h45]
    rw [show decide ([c] = [45]) = false by simp [h45]] at h9
    exact fn_ret (x_seq (ri1 t) (x_seq (by rw [ri2 t hl, hd]) (x_seq (x_ifF h3 rfl) (x_seq h4 (x_seq h5 (x_seq h6 (x_seq h7 (x_seq h8 (x_seq (x_ifF h9 rfl) (x_ret (ev_var rfl)))))))))))
end K33

set_option Elab.async false
set_option linter.all false
set_option maxRecDepth 100000
set_option maxHeartbeats 4000000
namespace K33
open Mn PySem PySem.Spec PyProof.Rows L2
open TL (numL joinL)
open PySem.NumText renaming AllDigits → AD, digitsVal → dv
/-! plain_text, read_plain -/
def plC (c : Nat) : Bool := !(decide (c < 32) || (decide (126 < c) || (decide (c = 39) || decide (c = 37))))
def ptB : Ms := (mIf (mOr (mAsB (mPrim pLt (mCons (mVar 1) (mCons (mLit (.str [32])) mNil)))) (mOr (mAsB (mPrim pGt (mCons (mVar 1) (mCons (mLit (.str [126])) mNil)))) (mOr (mAsB (mPrim (g2 (qEq false)) (mCons (mVar 1) (mCons (mLit (.str [39])) mNil)))) (mAsB (mPrim (g2 (qEq false)) (mCons (mPrim (g1 dOrdC) (mCons (mVar 1) mNil)) (mCons (mLit (.int 37)) mNil)))))))
    (mRet (mLit (.bl false)))
    mDone)
theorem v_gtS (i j : T) : pGt [.fz (.str i), .fz (.str j)] = some (.fz (.bl (decide (j < i)))) := by simp [pGt, dOrd]
theorem v_ord (c : Nat) : g1 dOrdC [.fz (.str [c])] = some (.fz (.int (c : Int))) := by simp [g1, dOrdC]
theorem v_eqI (i j : Int) : g2 (qEq false) [.fz (.int i), .fz (.int j)] = some (.fz (.bl (decide (i = j)))) := by simp
theorem one_lt (c d : Nat) : decide (([c] : T) < [d]) = decide (c < d) := by
  apply decide_eq_decide.mpr
  constructor
  · intro h
    cases h with
    | rel h => exact h
    | cons h => cases h
  · exact fun h => .rel h
theorem pt_turn (c : Nat) (a : Option O) : ptB [a, some (.fz (.str [c]))] = if plC c then .next [a, some (.fz (.str [c]))] else .ret (.fz (.bl false)) [a, some (.fz (.str [c]))] := by
  have h1 := x_asB (x_p2 (E := [a, some (.fz (.str [c]))]) (m1 := mVar 1) (m2 := mLit (.str [32])) (ev_var rfl) (ev_lit _ _) (v_ltS [c] [32]))
  have h2 := x_asB (x_p2 (E := [a, some (.fz (.str [c]))]) (m1 := mVar 1) (m2 := mLit (.str [126])) (ev_var rfl) (ev_lit _ _) (v_gtS [c] [126]))
  have h3 := x_asB (x_p2 (E := [a, some (.fz (.str [c]))]) (m1 := mVar 1) (m2 := mLit (.str [39])) (ev_var rfl) (ev_lit _ _) (v_eqS [c] [39]))
  have h4 := x_asB (x_p2 (E := [a, some (.fz (.str [c]))]) (m1 := mPrim (g1 dOrdC) (mCons (mVar 1) mNil)) (m2 := mLit (.int 37)) (x_p1 (ev_var rfl) (v_ord c)) (ev_lit _ _) (v_eqI (c : Int) 37))
  rw [one_lt] at h1 h2
  rw [show decide (([c] : T) = [39]) = decide (c = 39) by simp] at h3
  rw [show decide ((c : Int) = 37) = decide (c = 37) by apply decide_eq_decide.mpr; omega] at h4
  have h := x_or h1 (fun _ => x_or h2 (fun _ => x_or h3 (fun _ => h4) fun _ => rfl) fun _ => rfl) (fun _ => rfl)
  unfold ptB plC
  rw [ev_if, h, fl_ok']
  generalize (decide (c < 32) || (decide (126 < c) || (decide (c = 39) || decide (c = 37)))) = b
  cases b <;> rfl
theorem pt_loop {a : Option O} : ∀ (s : T) (x : Option O), ∃ x', fIter (tName 1) ptB (s.map fun c => .str [c]) [a, x] = if s.all plC then .next [a, x'] else .ret (.fz (.bl false)) [a, x']
  | [], x => ⟨x, rfl⟩
  | c :: s, x => by
    rw [List.map_cons]
    unfold fIter
    rw [ev_name, fl_ok']
    simp only [List.set_cons_succ, List.set_cons_zero]
    rw [pt_turn]
    by_cases hc : plC c = true
    · obtain ⟨x', e⟩ := pt_loop (a := a) s (some (.fz (.str [c])))
      refine ⟨x', ?_⟩
      rw [if_pos hc, List.all_cons, hc, Bool.true_and]
      exact e
    · refine ⟨some (.fz (.str [c])), ?_⟩
      rw [if_neg hc]
      have : plC c = false := by simpa using hc
      simp [this]
theorem plain_ok {n : Nat} (s : T) : sem (n + 1) 3 [.fz (.str s)] = .ok (.fz (.bl (s.all plC))) none := by
  obtain ⟨x', e⟩ := pt_loop (a := some (.fz (.str s))) s none
  have hf : mFor (tName 1) (iVal (mVar 0)) ptB [some (.fz (.str s)), none] = if s.all plC then .next [some (.fz (.str s)), x'] else .ret (.fz (.bl false)) [some (.fz (.str s)), x'] := x_for (x_val (ev_var rfl) (by rw [toD_fz]; exact it_str _)) e
  rw [e3]
  cases h : s.all plC with
  | true =>
    rw [h, if_pos rfl] at hf
    exact fn_ret (x_seq hf (x_ret (ev_lit _ _)))
  | false =>
    rw [h, if_neg (by simp)] at hf
    exact fn_ret (x_seqR hf)
/-! find -/
theorem getD_mk (t : T) (v : Nat) : (mk t).cps.getD v 0 = t.getD v 0 := by
  unfold mk
  by_cases h : v < t.length
  · simp [Array.getD, h, List.getD]
  · simp [Array.getD, h, List.getD]
theorem from_ix (n i : Nat) : fromIndex n ((i : Nat) : Int) = i := by
  unfold fromIndex
  rw [if_neg (by omega)]
  omega
theorem v_find {t s r : T} {i : Nat} (h : t.drop i = s ++ 39 :: r) (hs : 39 ∉ s) : tFind3 t [.fz (.str [39]), .fz (.int (i : Int))] = some (.fz (.int ((i + s.length : Nat) : Int))) := by
  have e : Txt.find3 (mk t) (mk [39]) (i : Int) = ((i + s.length : Nat) : Int) := by
    have hlen : i + s.length < t.length := by
      have := congrArg List.length h
      simp at this
      omega
    have hat : ∀ v, t.getD (i + v) 0 = (s ++ 39 :: r).getD v 0 := fun v => by
      rw [← h]
      simp [List.getD, List.getElem?_drop]
    have h39 : t.getD (i + s.length) 0 = 39 := by rw [hat]; simp [List.getD]
    have hno : ∀ v, i ≤ v → v < i + s.length → t.getD v 0 ≠ 39 := fun v h1 h2 e => by
      have := hat (v - i)
      rw [show i + (v - i) = v by omega, e] at this
      have hv : v - i < s.length := by omega
      rw [List.getD, List.getElem?_append_left hv, List.getElem?_eq_getElem hv] at this
      simp at this
      exact hs (this ▸ List.getElem_mem hv)
    rcases PySem.StrLaws.find3_spec (mk t) 39 (i : Int) with ⟨_, h2⟩ | ⟨k, h1, h2, h3, h4, h5⟩
    · refine absurd ?_ (h2 (i + s.length) (by rw [from_ix]; omega) (by rw [mk_len]; exact hlen))
      rw [getD_mk]; exact h39
    · rw [from_ix] at h2 h5
      rw [getD_mk] at h4
      have hk : k = i + s.length := by
        rcases Nat.lt_trichotomy k (i + s.length) with hlt | he | hgt
        · exact absurd h4 (hno k h2 hlt)
        · exact he
        · refine absurd ?_ (h5 (i + s.length) (by omega) hgt)
          rw [getD_mk]; exact h39
      rw [← hk]; exact h1
  unfold tFind3 dFind3
  rw [toDs_cons, toDs_cons, toDs_nil, toD_fz, toD_fz]
  simp only [Option.map_some, e]
theorem v_find0 {t : T} {i : Nat} (h : 39 ∉ t.drop i) : tFind3 t [.fz (.str [39]), .fz (.int (i : Int))] = some (.fz (.int (-1))) := by
  have e : Txt.find3 (mk t) (mk [39]) (i : Int) = -1 := by
    rcases PySem.StrLaws.find3_spec (mk t) 39 (i : Int) with ⟨h1, _⟩ | ⟨k, h1, h2, h3, h4, h5⟩
    · exact h1
    · rw [from_ix] at h2
      rw [getD_mk] at h4
      rw [mk_len] at h3
      refine absurd ?_ h
      rw [List.getD, List.getElem?_eq_getElem h3] at h4
      simp at h4
      rw [List.mem_iff_getElem]
      exact ⟨k - i, by simp; omega, by simp only [List.getElem_drop, show i + (k - i) = k by omega]; exact h4⟩
  unfold tFind3 dFind3
  rw [toDs_cons, toDs_cons, toDs_nil, toD_fz, toD_fz]
  simp only [Option.map_some, e]
/-! the run of signs -/
def isS (c : Nat) : Bool := decide (c = 45) || isD c
def SG : T := [45, 48, 49, 50, 51, 52, 53, 54, 55, 56, 57]
theorem mem_SG {c : Nat} : decide (c ∈ SG) = isS c := by
  rw [Bool.eq_iff_iff]
  unfold SG isS
  simp [isD]
  omega
def rpC : M Bool := (mAnd (mAsB (mPrim pLt (mCons (mVar 2) (mCons (mRd1 dLen 0) mNil)))) (mAsB (mPrim (g2 (qIn false)) (mCons (mIdx 0 (mVar 2)) (mCons (mLit (.str [45, 48, 49, 50, 51, 52, 53, 54, 55, 56, 57])) mNil)))))
def rpB : Ms := (mAug (fun i j => i + j) 2 (mLit (.int 1)))
theorem ev_aug {g : Int → Int → Int} {i : Nat} {a b : Int} {E : En} (h : E[i]? = some (some (.fz (.int a)))) : mAug g i (mLit (.int b)) E = .next (E.set i (some (.fz (.int (g a b))))) := by
  unfold mAug
  rw [h]
  rfl
theorem rp_cond {t : T} {j : Nat} {a : Option O} (hl : t.length ≤ 16000000) : rpC [some (.fz (.str t)), a, some (.fz (.int (j : Int)))] = .ok (match t.drop j with
  | [] => false
  | c :: _ => isS c) [some (.fz (.str t)), a, some (.fz (.int (j : Int)))] := by
  have h1 := x_asB (x_p2 (E := [some (.fz (.str t)), a, some (.fz (.int (j : Int)))]) (m1 := mVar 2) (m2 := mRd1 dLen 0) (ev_var rfl) (len_str rfl hl) (v_lt (j : Int) (t.length : Int)))
  rw [show decide ((j : Int) < (t.length : Int)) = decide (j < t.length) by apply decide_eq_decide.mpr; omega] at h1
  by_cases h : j < t.length
  · have hd : t.drop j = t[j] :: t.drop (j + 1) := List.drop_eq_getElem_cons h
    rw [hd]
    have hi : mIdx 0 (mVar 2) [some (.fz (.str t)), a, some (.fz (.int (j : Int)))] = .ok (.fz (.str [t[j]])) [some (.fz (.str t)), a, some (.fz (.int (j : Int)))] := idx_str rfl (ev_var rfl) rfl (List.getElem?_eq_getElem h) hl
    have hq : g2 (qIn false) [.fz (.str [t[j]]), .fz (.str [45, 48, 49, 50, 51, 52, 53, 54, 55, 56, 57])] = some (.fz (.bl (isS t[j]))) := by
      rw [← mem_SG]
      simp [qIn, dIn, SG]
    have h2 := x_asB (x_p2 hi (ev_lit (.str [45, 48, 49, 50, 51, 52, 53, 54, 55, 56, 57]) _) hq)
    have h3 := x_and h1 (fun _ => h2) fun _ => rfl
    rw [decide_eq_true h, Bool.true_and] at h3
    exact h3
  · rw [List.drop_of_length_le (by omega)]
    rw [decide_eq_false h] at h1
    exact x_and (y := false) h1 (fun z => Bool.noConfusion z) fun _ => rfl
theorem rp_loop {t r : T} {a : Option O} (hl : t.length ≤ 16000000) (hr : ∀ c, r.head? = some c → isS c = false) : ∀ (run : T) (j : Nat), t.drop j = run ++ r → run.all isS = true →
    wIter rpC rpB (run.length + 1) [some (.fz (.str t)), a, some (.fz (.int (j : Int)))] = some (.next [some (.fz (.str t)), a, some (.fz (.int ((j + run.length : Nat) : Int)))])
  | [], j, h, _ => by
    unfold wIter
    rw [rp_cond hl, h, List.nil_append]
    cases r with
    | nil => rfl
    | cons c r => simp only [hr c rfl]; rfl
  | c :: run, j, h, ha => by
    rw [List.all_cons, Bool.and_eq_true] at ha
    have hd : t.drop (j + 1) = run ++ r := by
      rw [← List.drop_drop, h]; rfl
    have ih := rp_loop (a := a) hl hr run (j + 1) hd ha.2
    unfold wIter
    rw [rp_cond hl, h]
    simp only [List.cons_append, ha.1]
    unfold rpB
    rw [ev_aug rfl]
    simp only [List.set_cons_succ, List.set_cons_zero]
    rw [show ((j : Int) + 1) = ((j + 1 : Nat) : Int) by omega, show j + (c :: run).length = j + 1 + run.length by simp; omega]
    exact ih
end K33

set_option Elab.async false
set_option linter.all false
set_option maxRecDepth 100000
set_option maxHeartbeats 4000000
namespace K33
open Mn PySem PySem.Spec PyProof.Rows L2
open TL (numL joinL)
open PySem.NumText renaming AllDigits → AD, digitsVal → dv
abbrev E3 (t : T) (i : Nat) (e : Option O) : En := [some (.fz (.str t)), some (.fz (.int (i : Int))), e]
theorem drop_get {t r : T} {i c : Nat} (h : t.drop i = c :: r) : t[i]? = some c := by
  have := congrArg (fun l : T => l[0]?) h
  simpa [List.getElem?_drop] using this
theorem drop_lt {t r : T} {i c : Nat} (h : t.drop i = c :: r) : i < t.length := by
  have := drop_get h
  exact (List.getElem?_eq_some_iff.mp this).1
theorem drop_next {t r : T} {i c : Nat} (h : t.drop i = c :: r) : t.drop (i + 1) = r := by
  rw [← List.drop_drop, h]; rfl
theorem rl_cond {t r : T} {i c : Nat} (h : t.drop i = c :: r) (hl : t.length ≤ 16000000) : mAsB (mPrim (g2 (qEq false)) (mCons (mIdx 0 (mVar 1)) (mCons (mLit (.str [39])) mNil))) (E3 t i none) = .ok (decide (c = 39)) (E3 t i none) := by
  have hi : mIdx 0 (mVar 1) (E3 t i none) = .ok (.fz (.str [c])) (E3 t i none) := idx_str rfl (ev_var rfl) rfl (drop_get h) hl
  have := x_asB (x_p2 hi (ev_lit (.str [39]) _) (v_eqS _ _))
  rw [show decide (([c] : T) = [39]) = decide (c = 39) by simp] at this
  exact this
theorem rl_find {t : T} {i : Nat} {k : Int} (h : tFind3 t [.fz (.str [39]), .fz (.int ((i + 1 : Nat) : Int))] = some (.fz (.int k))) : mAsg (tName 2) (mStrM tFind3 (mVar 0) (mCons (mLit (.str [39])) (mCons (mPrim pAdd (mCons (mVar 1) (mCons (mLit (.int 1)) mNil))) mNil))) (E3 t i none) = .next (E3 t i (some (.fz (.int k)))) := by
  refine x_asg (o := .fz (.int k)) (E1 := E3 t i none) ?_ rfl
  have h1 : mPrim pAdd (mCons (mVar 1) (mCons (mLit (.int 1)) mNil)) (E3 t i none) = .ok (.fz (.int ((i + 1 : Nat) : Int))) (E3 t i none) := by
    refine x_p2 (ev_var rfl) (ev_lit _ _) ?_
    rw [v_addI]
    rfl
  rw [ev_strM, ev_var (d := .str t) rfl, bind_ok']
  simp only [str_fz]
  rw [ev_cons, ev_lit, bind_ok', ev_cons, h1, bind_ok', ev_nil, bind_ok', bind_ok', bind_ok']
  simp only [h]
theorem add_one {t : T} {i : Nat} {e : Option O} : mPart (mPrim pAdd (mCons (mVar 1) (mCons (mLit (.int 1)) mNil))) (E3 t i e) = .ok (some ((i + 1 : Nat) : Int)) (E3 t i e) := by
  rw [ev_part, x_p2 (E := E3 t i e) (m1 := mVar 1) (m2 := mLit (.int 1)) (ev_var rfl) (ev_lit _ _) (v_addI (i : Int) 1)]
  rfl
theorem rl_slice {t s r : T} {i : Nat} (h : t.drop i = 39 :: (s ++ 39 :: r)) (hl : t.length ≤ 16000000) : mSlice (mVar 0) (mPart (mPrim pAdd (mCons (mVar 1) (mCons (mLit (.int 1)) mNil)))) (mPart (mVar 2)) (E3 t i (some (.fz (.int ((i + 1 + s.length : Nat) : Int))))) = .ok (.fz (.str s)) (E3 t i (some (.fz (.int ((i + 1 + s.length : Nat) : Int))))) := by
  have hc := cut_mid (s := t) (i + 1) (i + 1 + s.length) hl
  rw [drop_next h, show i + 1 + s.length - (i + 1) = s.length by omega, List.take_left] at hc
  rw [ev_slice, ev_var (d := .str t) rfl, bind_ok', add_one, bind_ok', part_var rfl, bind_ok']
  simp only [toD_fz, hc]
theorem rl_test {n : Nat} {t s r : T} {i : Nat} (h : t.drop i = 39 :: (s ++ 39 :: r)) (hl : t.length ≤ 16000000) :
    (mOr (mAsB (mPrim pLt (mCons (mVar 2) (mCons (mLit (.int 0)) mNil)))) (mNot (mTru (mCall (sem (n + 1) 3) (mCons (mSlice (mVar 0) (mPart (mPrim pAdd (mCons (mVar 1) (mCons (mLit (.int 1)) mNil)))) (mPart (mVar 2))) mNil))))) (E3 t i (some (.fz (.int ((i + 1 + s.length : Nat) : Int))))) = .ok (!s.all plC) (E3 t i (some (.fz (.int ((i + 1 + s.length : Nat) : Int))))) := by
  have h1 := x_asB (x_p2 (E := E3 t i (some (.fz (.int ((i + 1 + s.length : Nat) : Int))))) (m1 := mVar 2) (m2 := mLit (.int 0)) (ev_var rfl) (ev_lit _ _) (v_lt ((i + 1 + s.length : Nat) : Int) 0))
  rw [show decide (((i + 1 + s.length : Nat) : Int) < 0) = false from decide_eq_false (by omega)] at h1
  have h2 : mNot (mTru (mCall (sem (n + 1) 3) (mCons (mSlice (mVar 0) (mPart (mPrim pAdd (mCons (mVar 1) (mCons (mLit (.int 1)) mNil)))) (mPart (mVar 2))) mNil))) (E3 t i (some (.fz (.int ((i + 1 + s.length : Nat) : Int))))) = .ok (!s.all plC) (E3 t i (some (.fz (.int ((i + 1 + s.length : Nat) : Int))))) := by
    rw [ev_not, ev_tru, x_c1 (rl_slice h hl) (plain_ok s), bind_ok']
    simp only [toD_fz, t_bl]
    rfl
  have h3 := x_or h1 (fun _ => h2) (fun z => Bool.noConfusion z)
  rw [Bool.false_or] at h3
  exact h3
theorem rl_str {n : Nat} {t s r : T} {i : Nat} (h : t.drop i = 39 :: (s ++ 39 :: r)) (hs : 39 ∉ s) (hp : s.all plC = true) (hl : t.length ≤ 16000000) : sem (n + 2) 4 [.fz (.str t), .fz (.int (i : Int))] = .ok (.fz (.tup [.str s, .int ((i + s.length + 2 : Nat) : Int)])) none := by
  have hf := rl_find (v_find (i := i + 1) (drop_next h) hs)
  have ht := rl_test (n := n) h hl
  rw [hp] at ht
  have hr : mRet (mPrim pTup (mCons (mSlice (mVar 0) (mPart (mPrim pAdd (mCons (mVar 1) (mCons (mLit (.int 1)) mNil)))) (mPart (mVar 2))) (mCons (mPrim pAdd (mCons (mVar 2) (mCons (mLit (.int 1)) mNil))) mNil))) (E3 t i (some (.fz (.int ((i + 1 + s.length : Nat) : Int))))) = .ret (.fz (.tup [.str s, .int ((i + s.length + 2 : Nat) : Int)])) (E3 t i (some (.fz (.int ((i + 1 + s.length : Nat) : Int))))) := by
    refine x_ret (x_p2 (rl_slice h hl) (x_p2 (ev_var rfl) (ev_lit _ _) (v_addI _ _)) ?_)
    rw [v_tup]
    refine (if_pos z2).trans ?_
    simp only [toDs_cons, toDs_nil, toD_fz]
    rw [show ((i + 1 + s.length : Nat) : Int) + 1 = ((i + s.length + 2 : Nat) : Int) by omega]
  have hc := rl_cond h hl
  rw [decide_eq_true rfl] at hc
  rw [e4]
  exact fn_ret (x_seqR (x_ifT hc (x_seq hf (x_seq (x_ifF ht rfl) hr))))
theorem rl_strbad {n : Nat} {t s r : T} {i : Nat} (h : t.drop i = 39 :: (s ++ 39 :: r)) (hs : 39 ∉ s) (hp : s.all plC = false) (hl : t.length ≤ 16000000) : sem (n + 2) 4 [.fz (.str t), .fz (.int (i : Int))] = .exc 1000 := by
  have hf := rl_find (v_find (i := i + 1) (drop_next h) hs)
  have ht := rl_test (n := n) h hl
  rw [hp] at ht
  have hc := rl_cond h hl
  rw [decide_eq_true rfl] at hc
  rw [e4]
  refine fn_exc (E := E3 t i (some (.fz (.int ((i + 1 + s.length : Nat) : Int))))) (x_seqE (x_ifT hc (x_seq hf (x_seqE (x_ifT ht rfl)))))
theorem rl_noq {n : Nat} {t r : T} {i : Nat} (h : t.drop i = 39 :: r) (hs : 39 ∉ r) (hl : t.length ≤ 16000000) : sem (n + 2) 4 [.fz (.str t), .fz (.int (i : Int))] = .exc 1000 := by
  have hf := rl_find (v_find0 (i := i + 1) (by rw [drop_next h]; exact hs))
  have h1 := x_asB (x_p2 (E := E3 t i (some (.fz (.int (-1))))) (m1 := mVar 2) (m2 := mLit (.int 0)) (ev_var rfl) (ev_lit _ _) (v_lt (-1) 0))
  have ht : (mOr (mAsB (mPrim pLt (mCons (mVar 2) (mCons (mLit (.int 0)) mNil)))) (mNot (mTru (mCall (sem (n + 1) 3) (mCons (mSlice (mVar 0) (mPart (mPrim pAdd (mCons (mVar 1) (mCons (mLit (.int 1)) mNil)))) (mPart (mVar 2))) mNil))))) (E3 t i (some (.fz (.int (-1))))) = .ok true (E3 t i (some (.fz (.int (-1))))) := by
    rw [ev_or, h1, bind_ok']
    rfl
  have hc := rl_cond h hl
  rw [decide_eq_true rfl] at hc
  rw [e4]
  refine fn_exc (E := E3 t i (some (.fz (.int (-1))))) (x_seqE (x_ifT hc (x_seq hf (x_seqE (x_ifT ht rfl)))))
theorem rl_run {n c : Nat} {t run r : T} {i : Nat} (h : t.drop i = run ++ r) (hc : (run ++ r).head? = some c) (hq : c ≠ 39) (ha : run.all isS = true) (hr : ∀ c, r.head? = some c → isS c = false) (hl : t.length ≤ 16000000) (hrl : run.length ≤ 100000) :
    sem (n + 2) 4 [.fz (.str t), .fz (.int (i : Int))] = if okI run then .ok (.fz (.tup [.int (valI run), .int ((i + run.length : Nat) : Int)])) none else .exc 1000 := by
  have hc' : ∃ q, t.drop i = c :: q := by
    rw [h]
    cases hh : run ++ r with
    | nil => rw [hh] at hc; cases hc
    | cons a q => rw [hh] at hc; cases hc; exact ⟨q, rfl⟩
  obtain ⟨q, hcq⟩ := hc'
  have hcd := rl_cond hcq hl
  rw [decide_eq_false hq] at hcd
  have hw : mWhile rpC rpB (E3 t i (some (.fz (.int (i : Int))))) = .next (E3 t i (some (.fz (.int ((i + run.length : Nat) : Int))))) := mWhile_of (rp_loop hl hr run i h ha)
  have hs : mSlice (mVar 0) (mPart (mVar 1)) (mPart (mVar 2)) (E3 t i (some (.fz (.int ((i + run.length : Nat) : Int))))) = .ok (.fz (.str run)) (E3 t i (some (.fz (.int ((i + run.length : Nat) : Int))))) := by
    have hcut := cut_mid (s := t) i (i + run.length) hl
    rw [h, show i + run.length - i = run.length by omega, List.take_left] at hcut
    rw [ev_slice, ev_var (d := .str t) rfl, bind_ok', part_var rfl, bind_ok', part_var rfl, bind_ok']
    simp only [toD_fz, hcut]
  have has : mAsg (tName 2) (mVar 1) (E3 t i none) = .next (E3 t i (some (.fz (.int (i : Int))))) := x_asg (ev_var rfl) rfl
  rw [e4]
  by_cases hok : okI run = true
  · rw [if_pos hok]
    refine fn_ret (x_seq (x_ifF hcd rfl) (x_seq has (x_seq hw (x_ret (x_p2 (x_c1 hs (read_ok hok hrl)) (ev_var rfl) ?_)))))
    rw [v_tup]
    refine (if_pos z2).trans ?_
    simp only [toDs_cons, toDs_nil, toD_fz]
  · rw [if_neg hok]
    have hok : okI run = false := by simpa using hok
    refine fn_exc (E := E3 t i (some (.fz (.int ((i + run.length : Nat) : Int))))) (x_seq (x_ifF hcd rfl) (x_seq has (x_seq hw ?_)))
    have hcall : mCall (sem (n + 1) 1) (mCons (mSlice (mVar 0) (mPart (mVar 1)) (mPart (mVar 2))) mNil) (E3 t i (some (.fz (.int ((i + run.length : Nat) : Int))))) = .exc 1000 (E3 t i (some (.fz (.int ((i + run.length : Nat) : Int))))) := by
      rw [ev_call, ev_cons, hs, bind_ok', ev_nil, bind_ok', bind_ok']
      simp only [read_bad hok hrl]
    rw [ev_ret, ev_prim, ev_cons, hcall, bind_exc', bind_exc', fl_exc]
end K33

set_option Elab.async false
set_option linter.all false
set_option maxRecDepth 100000
set_option maxHeartbeats 4000000
namespace K33
open Mn PySem PySem.Spec PyProof.Rows L2
open TL (numL joinL)
open PySem.NumText renaming AllDigits → AD, digitsVal → dv
/-! read_data: one turn -/
abbrev Sk := List (List Mn.D)
def skL (st : Sk) : List O := st.reverse.map fun l => O.lst (l.map O.fz)
theorem skL_cons (l : List Mn.D) (st : Sk) : skL (l :: st) = skL st ++ [O.lst (l.map O.fz)] := by simp [skL]
theorem skL_len (st : Sk) : (skL st).length = st.length := by simp [skL]
abbrev ER (t : T) (st : Sk) (i : Nat) (f : Bool) (dn it : Option O) : En := [some (.fz (.str t)), some (.lst (skL st)), some (.fz (.int (i : Int))), some (.fz (.bl f)), dn, it]
theorem ER_snoc (t : T) (nx : List Mn.D) (x : Mn.D) (more : Sk) (i : Nat) (f : Bool) (dn it : Option O) : ER t ((nx ++ [x]) :: more) i f dn it = [some (.fz (.str t)), some (.lst (skL more ++ [O.lst (nx.map O.fz ++ [O.fz x])])), some (.fz (.int (i : Int))), some (.fz (.bl f)), dn, it] := by
  show [some (O.fz (.str t)), some (O.lst (skL ((nx ++ [x]) :: more))), some (O.fz (.int (i : Int))), some (O.fz (.bl f)), dn, it] = _
  rw [skL_cons]
  simp
def C1 : M Bool := (mAnd (mTruB 3) (mAnd (mAsB (mPrim (g2 (qEq false)) (mCons (mIdx 0 (mVar 2)) (mCons (mLit (.str [40])) mNil)))) (mAsB (mPrim pLe (mCons (mRd1 dLen 1) (mCons (mLit (.int (200))) mNil))))))
def A1 : Ms := (mSeq (mDrop (mMeth uAppend 1 (mCons (mPrim pLst mNil) mNil)))
    (mAug (fun i j => i + j) 2 (mLit (.int 1))))
def C2 : M Bool := (mAnd (mAsB (mPrim (g2 (qEq false)) (mCons (mIdx 0 (mVar 2)) (mCons (mLit (.str [41])) mNil)))) (mAnd (mAsB (mPrim pGt (mCons (mRd1 dLen 1) (mCons (mLit (.int 1)) mNil)))) (mOr (mNot (mTruB 3)) (mAsB (mPrim (g2 (qEq false)) (mCons (mIdx 0 (mPrim pSub (mCons (mVar 2) (mCons (mLit (.int 1)) mNil)))) (mCons (mLit (.str [40])) mNil)))))))
def A2 : Ms := (mSeq (mAsg (tName 4) (mPrim pTuple (mCons (mMeth uPop 1 mNil) mNil)))
    (mSeq (mDrop (mMethAt uAppend 1 (mPrim pNeg (mCons (mLit (.int 1)) mNil)) (mCons (mVar 4) mNil)))
    (mSeq (mAug (fun i j => i + j) 2 (mLit (.int 1)))
    (mAsg (tName 3) (mLit (.bl false))))))
def C3 : M Bool := (mAnd (mNot (mTruB 3)) (mAnd (mAsB (mPrim pGt (mCons (mRd1 dLen 1) (mCons (mLit (.int 1)) mNil)))) (mAsB (mPrim (g2 (qEq false)) (mCons (mSlice (mVar 0) (mPart (mVar 2)) (mPart (mPrim pAdd (mCons (mVar 2) (mCons (mLit (.int 2)) mNil))))) (mCons (mLit (.str [44, 32])) mNil))))))
def A3 : Ms := (mSeq (mAug (fun i j => i + j) 2 (mLit (.int 2)))
    (mAsg (tName 3) (mLit (.bl true))))
def C4 : M Bool := (mAnd (mTruB 3) (mAsB (mPrim (g2 (qEq true)) (mCons (mIdx 0 (mVar 2)) (mCons (mLit (.str [40])) mNil)))))
def A4 (G : Nat → List O → Cr) : Ms := (mSeq (mAsg (tTup [(tName 5), (tName 2)]) (mCall (G 4) (mCons (mVar 0) (mCons (mVar 2) mNil))))
    (mSeq (mDrop (mMethAt uAppend 1 (mPrim pNeg (mCons (mLit (.int 1)) mNil)) (mCons (mVar 5) mNil)))
    (mAsg (tName 3) (mLit (.bl false)))))
def rdB (G : Nat → List O → Cr) : Ms := mIf C1 A1 (mIf C2 A2 (mIf C3 A3 (mIf C4 (A4 G) (mRaise 1000))))
def rdC : M Bool := (mAsB (mPrim pLt (mCons (mVar 2) (mCons (mRd1 dLen 0) mNil))))
section
variable {t r : T} {st : Sk} {i c : Nat} {f : Bool} {dn it : Option O}
theorem tru_f : mTruB 3 (ER t st i f dn it) = .ok f (ER t st i f dn it) := by
  rw [ev_truB (o := .fz (.bl f)) rfl]
  rfl
theorem idx_c (h : t.drop i = c :: r) (hl : t.length ≤ 16000000) : mIdx 0 (mVar 2) (ER t st i f dn it) = .ok (.fz (.str [c])) (ER t st i f dn it) := idx_str rfl (ev_var rfl) rfl (drop_get h) hl
theorem is_c (x : Nat) (h : t.drop i = c :: r) (hl : t.length ≤ 16000000) : mAsB (mPrim (g2 (qEq false)) (mCons (mIdx 0 (mVar 2)) (mCons (mLit (.str [x])) mNil))) (ER t st i f dn it) = .ok (decide (c = x)) (ER t st i f dn it) := by
  have := x_asB (x_p2 (idx_c (st := st) (f := f) (dn := dn) (it := it) h hl) (ev_lit (.str [x]) _) (v_eqS _ _))
  rw [show decide (([c] : T) = [x]) = decide (c = x) by simp] at this
  exact this
theorem sk_len : mRd1 dLen 1 (ER t st i f dn it) = .ok (.fz (.int (st.length : Int))) (ER t st i f dn it) := by
  rw [ev_rd (o := .lst (skL st)) _ rfl, toD_lst, d_lenL, toDs_length, skL_len]
theorem len_le (k : Nat) : mAsB (mPrim pLe (mCons (mRd1 dLen 1) (mCons (mLit (.int (k : Int))) mNil))) (ER t st i f dn it) = .ok (decide (st.length ≤ k)) (ER t st i f dn it) := by
  have := x_asB (x_p2 (sk_len (t := t) (st := st) (i := i) (f := f) (dn := dn) (it := it)) (ev_lit (.int (k : Int)) _) (v_le _ _))
  rw [show decide ((st.length : Int) ≤ (k : Int)) = decide (st.length ≤ k) by apply decide_eq_decide.mpr; omega] at this
  exact this
theorem len_gt : mAsB (mPrim pGt (mCons (mRd1 dLen 1) (mCons (mLit (.int 1)) mNil))) (ER t st i f dn it) = .ok (decide (1 < st.length)) (ER t st i f dn it) := by
  have := x_asB (x_p2 (sk_len (t := t) (st := st) (i := i) (f := f) (dn := dn) (it := it)) (ev_lit (.int 1) _) (v_gt _ _))
  rw [show decide ((1 : Int) < (st.length : Int)) = decide (1 < st.length) by apply decide_eq_decide.mpr; omega] at this
  exact this
theorem c1_ok (h : t.drop i = c :: r) (hl : t.length ≤ 16000000) : C1 (ER t st i f dn it) = .ok (f && (decide (c = 40) && decide (st.length ≤ 200))) (ER t st i f dn it) :=
  x_and tru_f (fun _ => x_and (is_c 40 h hl) (fun _ => len_le 200) fun _ => rfl) fun _ => rfl
/-- the sign ahead -/
def Ahead (t : T) (i : Nat) (pv : Bool) : Prop := ∃ j cp, i = j + 1 ∧ t[j]? = some cp ∧ pv = decide (cp = 40)
theorem ahead_c {pv : Bool} (ha : Ahead t i pv) (hl : t.length ≤ 16000000) : mAsB (mPrim (g2 (qEq false)) (mCons (mIdx 0 (mPrim pSub (mCons (mVar 2) (mCons (mLit (.int 1)) mNil)))) (mCons (mLit (.str [40])) mNil))) (ER t st i f dn it) = .ok pv (ER t st i f dn it) := by
  obtain ⟨j, cp, rfl, h1, rfl⟩ := ha
  have hs : mPrim pSub (mCons (mVar 2) (mCons (mLit (.int 1)) mNil)) (ER t st (j + 1) f dn it) = .ok (.fz (.int (j : Int))) (ER t st (j + 1) f dn it) := by
    refine x_p2 (ev_var rfl) (ev_lit _ _) ?_
    rw [v_subI]
    congr 3
    omega
  have := x_asB (x_p2 (idx_str (i := 0) (s := t) (E := ER t st (j + 1) f dn it) (E1 := ER t st (j + 1) f dn it) rfl hs rfl h1 hl) (ev_lit (.str [40]) _) (v_eqS _ _))
  rw [show decide (([cp] : T) = [40]) = decide (cp = 40) by simp] at this
  exact this
theorem c2_ok {pv : Bool} (h : t.drop i = c :: r) (hl : t.length ≤ 16000000) (ha : f = true → 1 < st.length → Ahead t i pv) : C2 (ER t st i f dn it) = .ok (decide (c = 41) && (decide (1 < st.length) && (!f || pv))) (ER t st i f dn it) := by
  refine x_and (is_c 41 h hl) (fun _ => x_and len_gt (fun h1 => ?_) fun _ => rfl) fun _ => rfl
  have h1 := of_decide_eq_true h1
  have hn : mNot (mTruB 3) (ER t st i f dn it) = .ok (!f) (ER t st i f dn it) := by rw [ev_not, tru_f]; rfl
  refine x_or hn (fun hf => ahead_c (ha (by simpa using hf) h1) hl) fun _ => rfl
theorem c3_ok (h : t.drop i = c :: r) (hl : t.length ≤ 16000000) : C3 (ER t st i f dn it) = .ok (!f && (decide (1 < st.length) && decide ((c :: r).take 2 = [44, 32]))) (ER t st i f dn it) := by
  have hn : mNot (mTruB 3) (ER t st i f dn it) = .ok (!f) (ER t st i f dn it) := by rw [ev_not, tru_f]; rfl
  have hp : mPart (mPrim pAdd (mCons (mVar 2) (mCons (mLit (.int 2)) mNil))) (ER t st i f dn it) = .ok (some ((i + 2 : Nat) : Int)) (ER t st i f dn it) := by
    rw [ev_part, x_p2 (E := ER t st i f dn it) (m1 := mVar 2) (m2 := mLit (.int 2)) (ev_var rfl) (ev_lit _ _) (v_addI (i : Int) 2)]
    rfl
  have hs : mSlice (mVar 0) (mPart (mVar 2)) (mPart (mPrim pAdd (mCons (mVar 2) (mCons (mLit (.int 2)) mNil)))) (ER t st i f dn it) = .ok (.fz (.str ((c :: r).take 2))) (ER t st i f dn it) := by
    have hcut := cut_mid (s := t) i (i + 2) hl
    rw [h, show i + 2 - i = 2 by omega] at hcut
    rw [ev_slice, ev_var (d := .str t) rfl, bind_ok', part_var rfl, bind_ok', hp, bind_ok']
    simp only [toD_fz, hcut]
  exact x_and hn (fun _ => x_and len_gt (fun _ => x_asB (x_p2 hs (ev_lit (.str [44, 32]) _) (v_eqS _ _))) fun _ => rfl) fun _ => rfl
theorem c4_ok (h : t.drop i = c :: r) (hl : t.length ≤ 16000000) : C4 (ER t st i f dn it) = .ok (f && !decide (c = 40)) (ER t st i f dn it) := by
  have := x_asB (x_p2 (idx_c (st := st) (f := f) (dn := dn) (it := it) h hl) (ev_lit (.str [40]) _) (v_neS _ _))
  rw [show decide (([c] : T) = [40]) = decide (c = 40) by simp] at this
  exact x_and tru_f (fun _ => this) fun _ => rfl
theorem a1_ok (hst : st.length ≤ 1000) : A1 (ER t st i f dn it) = .next (ER t ([] :: st) (i + 1) f dn it) := by
  have h1 : mPrim pLst mNil (ER t st i f dn it) = .ok (.lst []) (ER t st i f dn it) := by simp
  refine x_seq (x_app (i := 1) rfl h1 rfl (by rw [skL_len]; omega)) ?_
  rw [ev_aug (a := (i : Int)) rfl]
  rw [show ER t ([] :: st) (i + 1) f dn it = [some (.fz (.str t)), some (.lst (skL st ++ [O.lst []])), some (.fz (.int ((i + 1 : Nat) : Int))), some (.fz (.bl f)), dn, it] by rw [ER, skL_cons]; rfl]
  rfl
theorem ix_last (n : Nat) : ixN (n + 1) (-1) = some n := by
  unfold ixN
  rw [if_neg (by omega)]
  split
  · congr 1
    omega
  · omega
theorem x_last {xs : List O} {ys : List O} {o : O} {ms : M (List O)} {E : En} (h : E[1]? = some (some (.lst (xs ++ [O.lst ys])))) (hm : ms (E.set 1 none) = .ok [o] (E.set 1 none)) (hl : ys.length ≤ 16000000) :
    mDrop (mMethAt uAppend 1 (mPrim pNeg (mCons (mLit (.int 1)) mNil)) ms) E = .next (E.set 1 (some (.lst (xs ++ [O.lst (ys ++ [o])])))) := by
  have hi : 1 < E.length := (List.getElem?_eq_some_iff.mp h).1
  have hat : atI (xs ++ [O.lst ys]) (-1) = some (O.lst ys) := by
    unfold atI
    rw [show (xs ++ [O.lst ys]).length = xs.length + 1 by simp, ix_last]
    simp
  have hput : putAtO (.lst (xs ++ [O.lst ys])) (.int (-1)) (O.lst (ys ++ [o])) = .lst (xs ++ [O.lst (ys ++ [o])]) := by
    unfold putAtO
    simp only
    rw [show (xs ++ [O.lst ys]).length = xs.length + 1 by simp, ix_last]
    simp
  have hu : uAppend (.lst ys) [o] = some (.fz .non, .lst (ys ++ [o])) := by
    simp only [uAppend]
    rw [if_pos (szSu _ hl)]
  have hk : mPrim pNeg (mCons (mLit (.int 1)) mNil) E = .ok (.fz (.int (-1))) E := x_p1 (ev_lit _ _) (v_neg 1)
  have : mMethAt uAppend 1 (mPrim pNeg (mCons (mLit (.int 1)) mNil)) ms E = .ok (.fz .non) (E.set 1 (some (.lst (xs ++ [O.lst (ys ++ [o])])))) := by
    unfold mMethAt
    rw [h]
    simp only
    rw [hk, bind_ok']
    simp only [h, toD_fz, at_L, hat]
    rw [hm, bind_ok']
    simp only [List.getElem?_set_self hi, hu, hput, List.set_set]
  exact x_drop this
theorem a2_ok {top nx : List Mn.D} {more : Sk} (h1 : top.length ≤ 16000000) (h2 : nx.length ≤ 16000000) : A2 (ER t (top :: nx :: more) i f dn it) = .next (ER t ((nx ++ [.tup top]) :: more) (i + 1) false (some (.fz (.tup top))) it) := by
  have hp : mMeth uPop 1 mNil (ER t (top :: nx :: more) i f dn it) = .ok (.lst (top.map O.fz)) (ER t (nx :: more) i f dn it) := by
    rw [ev_meth (xs := skL (top :: nx :: more)) _ _ rfl, ev_nil, bind_ok']
    have hu : uPop (.lst (skL (top :: nx :: more))) [] = some (.lst (top.map O.fz), .lst (skL (nx :: more))) := by
      rw [skL_cons]
      simp [uPop]
    rw [show (ER t (top :: nx :: more) i f dn it)[1]? = some (some (.lst (skL (top :: nx :: more)))) from rfl]
    simp only [hu]
    rfl
  have ht : pTuple [.lst (top.map O.fz)] = some (.fz (.tup top)) := by
    simp only [pTuple, toD_lst, toDs_map, oTuple]
    rw [if_pos (szS _ h1)]
  refine x_seq (x_asg (x_p1 hp ht) rfl) ?_
  refine x_seq (x_last (xs := skL more) (ys := nx.map O.fz) (o := .fz (.tup top)) (ms := mCons (mVar 4) mNil) ?_ ?_ (by simpa using h2)) ?_
  · show some (some (O.lst (skL (nx :: more)))) = _
    rw [skL_cons]
  · rw [ev_cons, ev_var (d := .tup top) rfl, bind_ok', ev_nil, bind_ok']
  · refine x_seq (ev_aug (a := (i : Int)) rfl) ?_
    refine Eq.trans (x_asg (ev_lit _ _) rfl) ?_
    rw [ER_snoc]
    rfl
theorem a3_ok : A3 (ER t st i f dn it) = .next (ER t st (i + 2) true dn it) := by
  refine x_seq (ev_aug (a := (i : Int)) rfl) ?_
  exact x_asg (ev_lit _ _) rfl
theorem a4_ok {G : Nat → List O → Cr} {top : List Mn.D} {more : Sk} {d : Mn.D} {k : Nat} (hg : G 4 [.fz (.str t), .fz (.int (i : Int))] = .ok (.fz (.tup [d, .int (k : Int)])) none) (h1 : top.length ≤ 16000000) :
    A4 G (ER t (top :: more) i f dn it) = .next (ER t ((top ++ [d]) :: more) k false dn (some (.fz d))) := by
  have hc := x_c2 (E := ER t (top :: more) i f dn it) (m1 := mVar 0) (m2 := mVar 2) (ev_var rfl) (ev_var rfl) hg
  refine x_seq (x_asg (E2 := ER t (top :: more) k f dn (some (.fz d))) hc rfl) ?_
  refine x_seq (x_last (xs := skL more) (ys := top.map O.fz) (o := .fz d) (ms := mCons (mVar 5) mNil) ?_ ?_ (by simpa using h1)) ?_
  · show some (some (O.lst (skL (top :: more)))) = _
    rw [skL_cons]
  · rw [ev_cons, ev_var (d := d) rfl, bind_ok', ev_nil, bind_ok']
  · refine Eq.trans (x_asg (ev_lit _ _) rfl) ?_
    rw [ER_snoc]
    rfl
theorem a4_exc {G : Nat → List O → Cr} (hg : G 4 [.fz (.str t), .fz (.int (i : Int))] = .exc 1000) : A4 G (ER t st i f dn it) = .exc 1000 (ER t st i f dn it) := by
  have hc : mCall (G 4) (mCons (mVar 0) (mCons (mVar 2) mNil)) (ER t st i f dn it) = .exc 1000 (ER t st i f dn it) := by
    rw [ev_call, ev_cons, ev_var (d := .str t) rfl, bind_ok', ev_cons, ev_var (d := .int (i : Int)) rfl, bind_ok', ev_nil, bind_ok', bind_ok', bind_ok']
    simp only [hg]
  refine x_seqE ?_
  rw [ev_asg, hc, fl_exc]
theorem rd_cond : rdC (ER t st i f dn it) = (match (decide (t.length ≤ sizeLine)) with
  | true => .ok (decide (i < t.length)) (ER t st i f dn it)
  | false => .bad) := by
  unfold rdC
  by_cases h : t.length ≤ sizeLine
  · rw [decide_eq_true h]
    have h1 : mRd1 dLen 0 (ER t st i f dn it) = .ok (.fz (.int (t.length : Int))) (ER t st i f dn it) := by
      rw [ev_rd (o := .fz (.str t)) _ rfl]
      simp only [toD_fz, dLen]
      rw [if_pos h]
    have := x_asB (x_p2 (E := ER t st i f dn it) (m1 := mVar 2) (ev_var rfl) h1 (v_lt (i : Int) (t.length : Int)))
    rw [show decide ((i : Int) < (t.length : Int)) = decide (i < t.length) by apply decide_eq_decide.mpr; omega] at this
    exact this
  · rw [decide_eq_false h]
    have h1 : mRd1 dLen 0 (ER t st i f dn it) = .bad := by
      rw [ev_rd (o := .fz (.str t)) _ rfl]
      simp only [toD_fz, dLen]
      rw [if_neg h]
    rw [ev_asB, ev_prim, ev_cons, ev_var (d := .int (i : Int)) rfl, bind_ok', ev_cons, h1]
    rfl
end
end K33

set_option Elab.async false
set_option linter.all false
set_option maxRecDepth 100000
set_option maxHeartbeats 4000000
namespace K33
open Mn PySem PySem.Spec PyProof.Rows L2
open TL (numL joinL)
open PySem.NumText renaming AllDigits → AD, digitsVal → dv
/-! read_data, as a relation: stack (top first), whether the sign ahead opens, fresh, what is left, what comes out -/
def Res : Sk → Option Mn.D
  | [[d]] => some d
  | _ => none
inductive Rd : Sk → Bool → Bool → T → Option Mn.D → Prop
  | fin {st : Sk} {pv f : Bool} : Rd st pv f [] (Res st)
  | opn {st : Sk} {pv : Bool} {r : T} {out : Option Mn.D} (h : st.length ≤ 200) (q : Rd ([] :: st) true true r out) : Rd st pv true (40 :: r) out
  | cls {top nx : List Mn.D} {more : Sk} {pv f : Bool} {r : T} {out : Option Mn.D} (h : f = false ∨ pv = true) (q : Rd ((nx ++ [.tup top]) :: more) false false r out) : Rd (top :: nx :: more) pv f (41 :: r) out
  | com {st : Sk} {pv : Bool} {r : T} {out : Option Mn.D} (h : 1 < st.length) (q : Rd st false true r out) : Rd st pv false (44 :: 32 :: r) out
  | str {top : List Mn.D} {more : Sk} {pv : Bool} {s r : T} {out : Option Mn.D} (h : 39 ∉ s) (hp : s.all plC = true) (q : Rd ((top ++ [.str s]) :: more) false false r out) : Rd (top :: more) pv true (39 :: (s ++ 39 :: r)) out
  | strBad {st : Sk} {pv : Bool} {s r : T} (h : 39 ∉ s) (hp : s.all plC = false) : Rd st pv true (39 :: (s ++ 39 :: r)) none
  | noq {st : Sk} {pv : Bool} {r : T} (h : 39 ∉ r) : Rd st pv true (39 :: r) none
  | int {top : List Mn.D} {more : Sk} {pv : Bool} {run r : T} {out : Option Mn.D} (ha : run.all isS = true) (hr : ∀ c, r.head? = some c → isS c = false) (hl : run.length ≤ 100000) (ho : okI run = true) (q : Rd ((top ++ [.int (valI run)]) :: more) false false r out) : Rd (top :: more) pv true (run ++ r) out
  | intBad {st : Sk} {pv : Bool} {run r : T} {c : Nat} (hc : (run ++ r).head? = some c) (h39 : c ≠ 39) (h40 : c ≠ 40) (h41 : c = 41 → st.length ≤ 1 ∨ pv = false) (ha : run.all isS = true) (hr : ∀ c, r.head? = some c → isS c = false) (hl : run.length ≤ 100000) (ho : okI run = false) : Rd st pv true (run ++ r) none
  | deep {st : Sk} {pv : Bool} {r : T} (h : 200 < st.length) : Rd st pv true (40 :: r) none
  | stop {st : Sk} {pv : Bool} {c : Nat} {r : T} (h41 : c = 41 → st.length ≤ 1) (h44 : (c :: r).take 2 = [44, 32] → st.length ≤ 1) : Rd st pv false (c :: r) none
def Post (t : T) (out : Option Mn.D) (r : Fl) : Prop := (∃ st i f dn it, r = .next (ER t st i f dn it) ∧ out = Res st) ∨ ∃ E, r = .exc 1000 E ∧ out = none
section
variable {t r : T} {st : Sk} {i c : Nat} {f pv : Bool} {dn it : Option O} {out : Option Mn.D} {G : Nat → List O → Cr} {E' : En}
theorem go_on (h : t.drop i = c :: r) (hl : t.length ≤ 16000000) (hb : rdB G (ER t st i f dn it) = .next E') (q : ∃ m r, wIter rdC (rdB G) m E' = some r ∧ Post t out r) : ∃ m r, wIter rdC (rdB G) m (ER t st i f dn it) = some r ∧ Post t out r := by
  obtain ⟨m, r', h1, h2⟩ := q
  refine ⟨m + 1, r', ?_, h2⟩
  unfold wIter
  rw [rd_cond, decide_eq_true (szS _ hl)]
  simp only
  rw [decide_eq_true (drop_lt h)]
  simp only
  rw [hb]
  exact h1
theorem go_exc (h : t.drop i = c :: r) (hl : t.length ≤ 16000000) (hb : rdB G (ER t st i f dn it) = .exc 1000 E') : ∃ m r, wIter rdC (rdB G) m (ER t st i f dn it) = some r ∧ Post t none r := by
  refine ⟨1, .exc 1000 E', ?_, .inr ⟨E', rfl, rfl⟩⟩
  unfold wIter
  rw [rd_cond, decide_eq_true (szS _ hl)]
  simp only
  rw [decide_eq_true (drop_lt h)]
  simp only
  rw [hb]
theorem b1 (h1 : C1 (ER t st i f dn it) = .ok true (ER t st i f dn it)) {q : Fl} (ha : A1 (ER t st i f dn it) = q) : rdB G (ER t st i f dn it) = q := x_ifT h1 ha
theorem b2 (h1 : C1 (ER t st i f dn it) = .ok false (ER t st i f dn it)) (h2 : C2 (ER t st i f dn it) = .ok true (ER t st i f dn it)) {q : Fl} (ha : A2 (ER t st i f dn it) = q) : rdB G (ER t st i f dn it) = q := x_ifF h1 (x_ifT h2 ha)
theorem b3 (h1 : C1 (ER t st i f dn it) = .ok false (ER t st i f dn it)) (h2 : C2 (ER t st i f dn it) = .ok false (ER t st i f dn it)) (h3 : C3 (ER t st i f dn it) = .ok true (ER t st i f dn it)) {q : Fl} (ha : A3 (ER t st i f dn it) = q) : rdB G (ER t st i f dn it) = q := x_ifF h1 (x_ifF h2 (x_ifT h3 ha))
theorem b4 (h1 : C1 (ER t st i f dn it) = .ok false (ER t st i f dn it)) (h2 : C2 (ER t st i f dn it) = .ok false (ER t st i f dn it)) (h3 : C3 (ER t st i f dn it) = .ok false (ER t st i f dn it)) (h4 : C4 (ER t st i f dn it) = .ok true (ER t st i f dn it)) {q : Fl} (ha : A4 G (ER t st i f dn it) = q) : rdB G (ER t st i f dn it) = q := x_ifF h1 (x_ifF h2 (x_ifF h3 (x_ifT h4 ha)))
theorem b5 (h1 : C1 (ER t st i f dn it) = .ok false (ER t st i f dn it)) (h2 : C2 (ER t st i f dn it) = .ok false (ER t st i f dn it)) (h3 : C3 (ER t st i f dn it) = .ok false (ER t st i f dn it)) (h4 : C4 (ER t st i f dn it) = .ok false (ER t st i f dn it)) : rdB G (ER t st i f dn it) = .exc 1000 (ER t st i f dn it) := x_ifF h1 (x_ifF h2 (x_ifF h3 (x_ifF h4 rfl)))
/-- a fresh place that neither opens nor closes -/
theorem b_item (h : t.drop i = c :: r) (hl : t.length ≤ 16000000) (ha : 1 < st.length → Ahead t i pv) (h40 : c ≠ 40) (h41 : c = 41 → st.length ≤ 1 ∨ pv = false) {q : Fl} (hq : A4 G (ER t st i true dn it) = q) : rdB G (ER t st i true dn it) = q := by
  refine b4 (by rw [c1_ok h hl, decide_eq_false h40]; simp) ?_ (by rw [c3_ok h hl]; simp) (by rw [c4_ok h hl, decide_eq_false h40]; rfl) hq
  rw [c2_ok h hl fun _ h1 => ha h1]
  by_cases hc : c = 41
  · rcases h41 hc with e | e
    · rw [decide_eq_false (show ¬ 1 < st.length by omega)]; simp
    · rw [e]; simp
  · rw [decide_eq_false hc]; simp
end
theorem isS_no {c : Nat} (h : isS c = true) : c ≠ 39 ∧ c ≠ 40 ∧ c ≠ 41 ∧ c ≠ 44 := by
  unfold isS isD at h
  simp at h
  omega
theorem okI_ne {t : T} (h : okI t = true) : t ≠ [] := fun e => by
  subst e
  exact absurd h (by decide)
theorem rd_walk {n : Nat} {t : T} (hl : t.length ≤ 16000000) {st : Sk} {pv f : Bool} {rest : T} {out : Option Mn.D} (R : Rd st pv f rest out) :
    ∀ (i : Nat) (dn it : Option O), t.drop i = rest → (∀ l ∈ st, l.length ≤ i) → st.length ≤ 201 → (f = true → 1 < st.length → Ahead t i pv) → ∃ m r, wIter rdC (rdB (sem (n + 2))) m (ER t st i f dn it) = some r ∧ Post t out r := by
  induction R with
  | @fin st pv f =>
    intro i dn it h _ _ _
    refine ⟨1, .next (ER t st i f dn it), ?_, .inl ⟨st, i, f, dn, it, rfl, rfl⟩⟩
    have : t.length ≤ i := List.drop_eq_nil_iff.mp h
    unfold wIter
    rw [rd_cond, decide_eq_true (szS _ hl)]
    simp only
    rw [decide_eq_false (by omega)]
  | @opn st pv r out hs q ih =>
    intro i dn it h hb hs2 ha
    refine go_on h hl (b1 (by rw [c1_ok h hl, decide_eq_true hs]; rfl) (a1_ok (by omega))) (ih (i + 1) dn it (drop_next h) (fun l hm => ?_) (by simp; omega) fun _ _ => ⟨i, 40, rfl, drop_get h, rfl⟩)
    rcases List.mem_cons.mp hm with e | e
    · subst e; simp
    · have := hb l e; omega
  | @cls top nx more pv f r out hf q ih =>
    intro i dn it h hb hs2 ha
    have hi := drop_lt h
    have ht := hb top (by simp)
    have hn := hb nx (by simp)
    refine go_on h hl (b2 (by rw [c1_ok h hl]; simp) ?_ (a2_ok (by omega) (by omega))) (ih (i + 1) _ _ (drop_next h) (fun l hm => ?_) (by simp at hs2 ⊢; omega) fun z => Bool.noConfusion z)
    · rw [c2_ok h hl ha]
      rcases hf with e | e
      · subst e; simp
      · subst e; simp
    · rcases List.mem_cons.mp hm with e | e
      · subst e; simp; omega
      · have := hb l (by simp [e]); omega
  | @com st pv r out hs q ih =>
    intro i dn it h hb hs2 ha
    have h2 := drop_next h
    refine go_on h hl (b3 (by rw [c1_ok h hl]; simp) (by rw [c2_ok (pv := false) h hl fun z => Bool.noConfusion z]; simp) (by rw [c3_ok h hl]; simp [hs]) a3_ok) (ih (i + 2) dn it (drop_next h2) (fun l hm => ?_) hs2 fun _ _ => ⟨i + 1, 32, rfl, drop_get h2, rfl⟩)
    have := hb l hm; omega
  | @str top more pv s r out hs hp q ih =>
    intro i dn it h hb hs2 ha
    have hi := drop_lt h
    have ht := hb top (by simp)
    have hd : t.drop (i + s.length + 2) = r := by
      rw [show i + s.length + 2 = (i + 1) + (s.length + 1) by omega, ← List.drop_drop, drop_next h]
      simp
    refine go_on h hl (b_item h hl (ha rfl) (by decide) (fun z => absurd z (by decide)) (a4_ok (rl_str h hs hp hl) (by omega))) (ih (i + s.length + 2) _ _ hd (fun l hm => ?_) hs2 fun z => Bool.noConfusion z)
    rcases List.mem_cons.mp hm with e | e
    · subst e; simp; omega
    · have := hb l (by simp [e]); omega
  | @strBad st pv s r hs hp =>
    intro i dn it h hb hs2 ha
    exact go_exc h hl (b_item h hl (ha rfl) (by decide) (fun z => absurd z (by decide)) (a4_exc (rl_strbad h hs hp hl)))
  | @noq st pv r hs =>
    intro i dn it h hb hs2 ha
    exact go_exc h hl (b_item h hl (ha rfl) (by decide) (fun z => absurd z (by decide)) (a4_exc (rl_noq h hs hl)))
  | @int top more pv run r out hall hr hrl ho q ih =>
    intro i dn it h hb hs2 ha
    obtain ⟨c, run', hc⟩ : ∃ c run', run = c :: run' := by
      cases run with
      | nil => exact absurd rfl (okI_ne ho)
      | cons c run' => exact ⟨c, run', rfl⟩
    have hcs : isS c = true := by
      rw [hc, List.all_cons, Bool.and_eq_true] at hall
      exact hall.1
    obtain ⟨n1, n2, n3, n4⟩ := isS_no hcs
    have h' : t.drop i = c :: (run' ++ r) := by rw [h, hc]; rfl
    have hi := drop_lt h'
    have ht := hb top (by simp)
    have hread := rl_run (n := n) (c := c) h (by rw [hc]; rfl) n1 hall hr hl hrl
    rw [if_pos ho] at hread
    have hd : t.drop (i + run.length) = r := by
      rw [← List.drop_drop, h]
      simp
    have hlen : 0 < run.length := by rw [hc]; simp
    refine go_on h' hl (b_item h' hl (ha rfl) n2 (fun z => absurd z n3) (a4_ok hread (by omega))) (ih (i + run.length) _ _ hd (fun l hm => ?_) hs2 fun z => Bool.noConfusion z)
    rcases List.mem_cons.mp hm with e | e
    · subst e; simp; omega
    · have := hb l (by simp [e]); omega
  | @intBad st pv run r c hc h39 h40 h41 hall hr hrl ho =>
    intro i dn it h hb hs2 ha
    obtain ⟨r', hr'⟩ : ∃ r', run ++ r = c :: r' := by
      cases hh : run ++ r with
      | nil => rw [hh] at hc; cases hc
      | cons a q => rw [hh] at hc; cases hc; exact ⟨q, rfl⟩
    have h' : t.drop i = c :: r' := by rw [h, hr']
    have hread := rl_run (n := n) (c := c) h hc h39 hall hr hl hrl
    rw [if_neg (by rw [ho]; simp)] at hread
    exact go_exc h' hl (b_item h' hl (ha rfl) h40 h41 (a4_exc hread))
  | @deep st pv r hs =>
    intro i dn it h hb hs2 ha
    exact go_exc h hl (b5 (by rw [c1_ok h hl, decide_eq_false (show ¬ st.length ≤ 200 by omega)]; rfl) (by rw [c2_ok h hl ha]; rfl) (by rw [c3_ok h hl]; rfl) (by rw [c4_ok h hl]; rfl))
  | @stop st pv c r h41 h44 =>
    intro i dn it h hb hs2 ha
    refine go_exc h hl (b5 (by rw [c1_ok h hl]; rfl) ?_ ?_ (by rw [c4_ok h hl]; rfl))
    · rw [c2_ok h hl ha]
      by_cases hc : c = 41
      · rw [decide_eq_false (show ¬ 1 < st.length by have := h41 hc; omega)]; simp
      · rw [decide_eq_false hc]; rfl
    · rw [c3_ok h hl]
      by_cases hc : (c :: r).take 2 = [44, 32]
      · rw [decide_eq_false (show ¬ 1 < st.length by have := h44 hc; omega)]; simp
      · rw [decide_eq_false hc]; simp
end K33

set_option Elab.async false
set_option linter.all false
set_option maxRecDepth 100000
set_option maxHeartbeats 4000000
namespace K33
open Mn PySem PySem.Spec PyProof.Rows L2
open TL (numL joinL)
open PySem.NumText renaming AllDigits → AD, digitsVal → dv
/-! read_data -/
def T1 : M Bool := (mOr (mAsB (mPrim (g2 (qEq true)) (mCons (mRd1 dLen 1) (mCons (mLit (.int 1)) mNil)))) (mAsB (mPrim (g2 (qEq true)) (mCons (mPrim (g1 dLen) (mCons (mIdx 1 (mLit (.int 0))) mNil)) (mCons (mLit (.int 1)) mNil)))))
def T2 : Ms := (mRet (mPrim pItem (mCons (mIdx 1 (mLit (.int 0))) (mCons (mLit (.int 0)) mNil))))
def T3 : Ms := mSeq (mIf T1 (mRaise 1000) mDone) T2
section
variable {t : T} {st : Sk} {i : Nat} {f : Bool} {dn it : Option O}
theorem v_neI (i j : Int) : g2 (qEq true) [.fz (.int i), .fz (.int j)] = some (.fz (.bl (!decide (i = j)))) := by simp
theorem ne1 (k : Nat) : (!decide ((k : Int) = 1)) = !decide (k = 1) := by
  congr 1
  apply decide_eq_decide.mpr
  omega
theorem t_many (h : st.length ≠ 1) : ∃ E, T3 (ER t st i f dn it) = .exc 1000 E := by
  have h1 := x_asB (x_p2 (sk_len (t := t) (st := st) (i := i) (f := f) (dn := dn) (it := it)) (ev_lit (.int 1) _) (v_neI _ _))
  rw [ne1, decide_eq_false h] at h1
  refine ⟨ER t st i f dn it, x_seqE (x_ifT (E1 := ER t st i f dn it) ?_ rfl)⟩
  unfold T1
  rw [ev_or, h1, bind_ok']
  rfl
abbrev EF (t : T) (l : List Mn.D) (i : Nat) (f : Bool) (dn it : Option O) : En := [some (.fz (.str t)), some (.fz (.lst [.lst l])), some (.fz (.int (i : Int))), some (.fz (.bl f)), dn, it]
theorem idx_one (l : List Mn.D) : mIdx 1 (mLit (.int 0)) (ER t [l] i f dn it) = .ok (.fz (.lst l)) (EF t l i f dn it) := by
  rw [ev_idx (o := .lst (skL [l])) _ rfl, ev_lit, bind_ok']
  rw [show (ER t [l] i f dn it)[1]? = some (some (O.lst (skL [l]))) from rfl]
  have hs : skL [l] = [O.lst (l.map O.fz)] := rfl
  rw [hs]
  simp only [toD_fz, at_L, atI0, toD_lst, toDs_map, toDs_cons, toDs_nil]
  rfl
theorem idx_two (l : List Mn.D) : mIdx 1 (mLit (.int 0)) (EF t l i f dn it) = .ok (.fz (.lst l)) (EF t l i f dn it) := by
  rw [ev_idx (o := .fz (.lst [.lst l])) _ rfl, ev_lit, bind_ok']
  rw [show (EF t l i f dn it)[1]? = some (some (O.fz (.lst [.lst l]))) from rfl]
  simp only [toD_fz, at_F, item_L, atI0, Option.map_some]
theorem t_one (l : List Mn.D) : T1 (ER t [l] i f dn it) = .ok (!decide (l.length = 1)) (EF t l i f dn it) := by
  have h1 := x_asB (x_p2 (sk_len (t := t) (st := [l]) (i := i) (f := f) (dn := dn) (it := it)) (ev_lit (.int 1) _) (v_neI _ _))
  have h2 : mAsB (mPrim (g2 (qEq true)) (mCons (mPrim (g1 dLen) (mCons (mIdx 1 (mLit (.int 0))) mNil)) (mCons (mLit (.int 1)) mNil))) (ER t [l] i f dn it) = .ok (!decide ((l.length : Int) = 1)) (EF t l i f dn it) := x_asB (x_p2 (x_p1 (idx_one l) (v_lenL l)) (ev_lit _ _) (v_neI _ _))
  rw [ne1] at h2
  unfold T1
  rw [ev_or, h1, bind_ok']
  exact h2
theorem res_two (a b : List Mn.D) (r : Sk) : Res (a :: b :: r) = none := by
  rcases a with _ | ⟨x, _ | ⟨y, z⟩⟩ <;> rfl
theorem t_fin (out : Option Mn.D) (h : out = Res st) : (∀ d, out = some d → ∃ E, T3 (ER t st i f dn it) = .ret (.fz d) E) ∧ (out = none → ∃ E, T3 (ER t st i f dn it) = .exc 1000 E) := by
  subst h
  by_cases h1 : st.length = 1
  · obtain ⟨l, rfl⟩ := List.length_eq_one_iff.mp h1
    by_cases h2 : l.length = 1
    · obtain ⟨d, rfl⟩ := List.length_eq_one_iff.mp h2
      have ht := t_one (t := t) (i := i) (f := f) (dn := dn) (it := it) [d]
      refine ⟨fun d' e => ?_, fun e => by cases e⟩
      cases e
      refine ⟨EF t [d] i f dn it, x_seq (x_ifF ht rfl) (x_ret (x_p2 (idx_two [d]) (ev_lit _ _) ?_))⟩
      rw [v_itemL]
      rfl
    · have ht := t_one (t := t) (i := i) (f := f) (dn := dn) (it := it) l
      rw [decide_eq_false h2] at ht
      refine ⟨fun d e => ?_, fun _ => ⟨_, x_seqE (x_ifT ht rfl)⟩⟩
      match l, h2, e with
      | [], _, e => cases e
      | [_], h2, _ => exact absurd rfl h2
      | _ :: _ :: _, _, e => cases e
  · refine ⟨fun d e => ?_, fun _ => t_many h1⟩
    match st, h1, e with
    | [], _, e => cases e
    | [_], h1, _ => exact absurd rfl h1
    | a :: b :: r, _, e => rw [res_two] at e; cases e
end
theorem rd_start {n : Nat} {t : T} {out : Option Mn.D} (hl : t.length ≤ 16000000) (R : Rd [[]] false true t out) : (∀ d, out = some d → sem (n + 3) 5 [.fz (.str t)] = .ok (.fz d) none) ∧ (out = none → sem (n + 3) 5 [.fz (.str t)] = .exc 1000) := by
  obtain ⟨m, r, h1, h2⟩ := rd_walk (n := n) hl R 0 none none rfl (by simp) (by simp) (fun _ h => absurd h (by simp))
  have s1 : mAsg (tName 1) (mPrim pLst (mCons (mPrim pLst mNil) mNil)) [some (.fz (.str t)), none, none, none, none, none] = .next [some (.fz (.str t)), some (.lst [.lst []]), none, none, none, none] := by
    refine x_asg (o := .lst [.lst []]) (E1 := [some (.fz (.str t)), none, none, none, none, none]) ?_ rfl
    have hz : 1 ≤ sizeLine := z1
    simp [hz]
  have s2 : mAsg (tName 2) (mLit (.int 0)) [some (.fz (.str t)), some (.lst [.lst []]), none, none, none, none] = .next [some (.fz (.str t)), some (.lst [.lst []]), some (.fz (.int 0)), none, none, none] := x_asg (ev_lit _ _) rfl
  have s3 : mAsg (tName 3) (mLit (.bl true)) [some (.fz (.str t)), some (.lst [.lst []]), some (.fz (.int 0)), none, none, none] = .next (ER t [[]] 0 true none none) := x_asg (ev_lit _ _) rfl
  have hw : mWhile rdC (rdB (sem (n + 2))) (ER t [[]] 0 true none none) = r := mWhile_of h1
  rw [e5]
  rcases h2 with ⟨st, i, f, dn, it, rfl, ho⟩ | ⟨E, rfl, ho⟩
  · obtain ⟨q1, q2⟩ := t_fin (t := t) (i := i) (f := f) (dn := dn) (it := it) out ho
    refine ⟨fun d e => ?_, fun e => ?_⟩
    · obtain ⟨E, q⟩ := q1 d e
      exact fn_ret (x_seq s1 (x_seq s2 (x_seq s3 (x_seq hw q))))
    · obtain ⟨E, q⟩ := q2 e
      exact fn_exc (x_seq s1 (x_seq s2 (x_seq s3 (x_seq hw q))))
  · subst ho
    exact ⟨fun d e => (by cases e), fun _ => fn_exc (x_seq s1 (x_seq s2 (x_seq s3 (x_seqE hw))))⟩
theorem rd_ok {n : Nat} {t : T} {d : Mn.D} (hl : t.length ≤ 16000000) (R : Rd [[]] false true t (some d)) : sem (n + 3) 5 [.fz (.str t)] = .ok (.fz d) none := (rd_start hl R).1 d rfl
theorem rd_bad {n : Nat} {t : T} (hl : t.length ≤ 16000000) (R : Rd [[]] false true t none) : sem (n + 3) 5 [.fz (.str t)] = .exc 1000 := (rd_start hl R).2 rfl
/-! short texts, by a run -/
def rdF : Nat → Sk → Bool → Bool → T → Bool
  | 0, _, _, _, _ => false
  | n + 1, st, pv, f, [] => (Res st).isNone
  | n + 1, st, pv, true, c :: r => if c = 40 then (if st.length ≤ 200 then rdF n ([] :: st) true true r else true)
    else if c = 41 ∧ pv = true ∧ 1 < st.length then (match st with
      | top :: nx :: more => rdF n ((nx ++ [.tup top]) :: more) false false r
      | _ => false)
    else if c = 39 then (match r.dropWhile (· != 39) with
      | [] => true
      | _ :: r2 => if (r.takeWhile (· != 39)).all plC then (match st with
        | top :: more => rdF n ((top ++ [.str (r.takeWhile (· != 39))]) :: more) false false r2
        | _ => false) else true)
    else if ((c :: r).takeWhile isS).length ≤ 100000 then (if okI ((c :: r).takeWhile isS) then (match st with
        | top :: more => rdF n ((top ++ [.int (valI ((c :: r).takeWhile isS))]) :: more) false false ((c :: r).dropWhile isS)
        | _ => false) else true) else false
  | n + 1, st, pv, false, c :: r => if c = 41 ∧ 1 < st.length then (match st with
      | top :: nx :: more => rdF n ((nx ++ [.tup top]) :: more) false false r
      | _ => false)
    else if (c :: r).take 2 = [44, 32] ∧ 1 < st.length then rdF n st false true (r.drop 1) else true
theorem drop_head {p : Nat → Bool} {l r : T} {c : Nat} (h : l.dropWhile p = c :: r) : p c = false := by
  have := List.head?_dropWhile_not p l
  rw [h] at this
  simpa using this
theorem rdF_ok : ∀ (n : Nat) (st : Sk) (pv f : Bool) (rest : T), rdF n st pv f rest = true → Rd st pv f rest none
  | 0, _, _, _, _, h => by simp [rdF] at h
  | n + 1, st, pv, f, [], h => by
    have h : (Res st).isNone = true := by cases f <;> exact h
    have e : Res st = none := by simpa using h
    have := Rd.fin (st := st) (pv := pv) (f := f)
    rw [e] at this
    exact this
  | n + 1, st, pv, true, c :: r, h => by
    unfold rdF at h
    split at h
    · next hc =>
      subst hc
      split at h
      · next hs => exact .opn hs (rdF_ok n _ _ _ _ h)
      · next hs => exact .deep (by omega)
    · next hc40 =>
      split at h
      · next hc =>
        obtain ⟨rfl, rfl, hs⟩ := hc
        split at h
        · exact .cls (.inr rfl) (rdF_ok n _ _ _ _ h)
        · cases h
      · next hc41 =>
        split at h
        · next hc39 =>
          subst hc39
          have hsplit : r = r.takeWhile (· != 39) ++ r.dropWhile (· != 39) := List.takeWhile_append_dropWhile.symm
          have hno : 39 ∉ r.takeWhile (· != 39) := fun hm => by
            have := List.all_eq_true.mp (List.all_takeWhile (p := (· != 39)) (l := r)) _ hm
            simp at this
          split at h
          · next he =>
            rw [he, List.append_nil] at hsplit
            refine .noq ?_
            rw [hsplit]; exact hno
          · next c2 r2 he =>
            have hc2 : c2 = 39 := by simpa using drop_head he
            subst hc2
            rw [he] at hsplit
            generalize r.takeWhile (· != 39) = s at *
            subst hsplit
            split at h
            · next hp =>
              split at h
              · exact .str hno hp (rdF_ok n _ _ _ _ h)
              · cases h
            · next hp => exact .strBad hno (by simpa using hp)
        · next hc39 =>
          split at h
          · next hl =>
            have hsplit : c :: r = (c :: r).takeWhile isS ++ (c :: r).dropWhile isS := List.takeWhile_append_dropWhile.symm
            have hall : ((c :: r).takeWhile isS).all isS = true := List.all_takeWhile
            have hr : ∀ x, ((c :: r).dropWhile isS).head? = some x → isS x = false := fun x hx => by
              cases hd : (c :: r).dropWhile isS with
              | nil => rw [hd] at hx; cases hx
              | cons y z => rw [hd] at hx; cases hx; exact drop_head hd
            have hh : ((c :: r).takeWhile isS ++ (c :: r).dropWhile isS).head? = some c := by rw [← hsplit]; rfl
            generalize (c :: r).takeWhile isS = run at *
            generalize (c :: r).dropWhile isS = r2 at *
            rw [hsplit]
            split at h
            · next ho =>
              split at h
              · exact .int hall hr hl ho (rdF_ok n _ _ _ _ h)
              · cases h
            · next ho =>
              refine .intBad hh hc39 hc40 (fun e => ?_) hall hr hl (by simpa using ho)
              by_cases hs : 1 < st.length
              · right
                by_cases hp : pv = true
                · exact absurd ⟨e, hp, hs⟩ hc41
                · simpa using hp
              · left; omega
          · cases h
  | n + 1, st, pv, false, c :: r, h => by
    unfold rdF at h
    split at h
    · next hc =>
      obtain ⟨rfl, hs⟩ := hc
      split at h
      · exact .cls (.inl rfl) (rdF_ok n _ _ _ _ h)
      · cases h
    · next hc =>
      split at h
      · next h2 =>
        obtain ⟨h2, hs⟩ := h2
        match r, h2 with
        | [], h2 => simp at h2
        | x :: r, h2 =>
          simp at h2
          obtain ⟨rfl, rfl⟩ := h2
          exact .com hs (rdF_ok n _ _ _ _ h)
      · next h2 =>
        refine .stop (fun e => ?_) (fun e => ?_)
        · by_cases hs : 1 < st.length
          · exact absurd ⟨e, hs⟩ hc
          · omega
        · by_cases hs : 1 < st.length
          · exact absurd ⟨e, hs⟩ h2
          · omega
end K33

set_option Elab.async false
set_option linter.all false
set_option maxRecDepth 100000
set_option maxHeartbeats 4000000
namespace K33
open Mn PySem PySem.Spec PyProof.Rows L2
open TL (numL joinL)
open PySem.NumText renaming AllDigits → AD, digitsVal → dv
/-! data and their texts -/
def LfI (i : Int) (t : T) : Prop := ∃ ds, Cn ds ∧ ds.length ≤ 200 ∧ ((i = ((dv ds : Nat) : Int) ∧ t = ds) ∨ (0 < dv ds ∧ i = -((dv ds : Nat) : Int) ∧ t = 45 :: ds))
def LfS (s t : T) : Prop := s.all plC = true ∧ s.length ≤ 6 ∧ t = 39 :: (s ++ [39])
def Leaf (d : Mn.D) (t : T) : Prop := (∃ i, d = .int i ∧ LfI i t) ∨ ∃ s, d = .str s ∧ LfS s t
def Dat : Nat → Mn.D → T → Prop
  | 0, d, t => Leaf d t
  | k + 1, d, t => Leaf d t ∨ ∃ rows : List (Mn.D × T), rows.length ≤ 4 ∧ (∀ p ∈ rows, Dat k p.1 p.2) ∧ d = .tup (rows.map (·.1)) ∧ t = 40 :: (joinL [44, 32] (rows.map (·.2)) ++ [41])
theorem isS_of {c : Nat} (h : 48 ≤ c ∧ c ≤ 57) : isS c = true := by simp [isS, isD, h]
theorem lfi_ok {i : Int} {t : T} (h : LfI i t) : okI t = true ∧ valI t = i ∧ t.all isS = true ∧ t.length ≤ 201 ∧ t ≠ [] := by
  obtain ⟨ds, ⟨h1, h2, h3⟩, hl, hh⟩ := h
  obtain ⟨c, r, rfl⟩ : ∃ c r, ds = c :: r := by
    cases ds with
    | nil => exact absurd rfl h2
    | cons c r => exact ⟨c, r, rfl⟩
  have hc := h1 c (by simp)
  have hall : (c :: r).all isD = true := all_AD.mpr h1
  have hS : (c :: r).all isS = true := List.all_eq_true.mpr fun x hx => isS_of (h1 x hx)
  rcases hh with ⟨rfl, rfl⟩ | ⟨hp, rfl, rfl⟩
  · have hb : bodyI (c :: r) = c :: r := by
      unfold bodyI
      rw [if_neg]
      simp
      omega
    refine ⟨?_, ?_, hS, by omega, by simp⟩
    · unfold okI
      rw [hb, hall]
      simp
      by_cases e : c = 48
      · have := h3 (by simp [e])
        exact .inr (by simpa using this)
      · exact .inl e
    · unfold valI
      rw [hb, if_neg]
      simp
      omega
  · have hb : bodyI (45 :: c :: r) = c :: r := rfl
    refine ⟨?_, ?_, ?_, by simp at hl ⊢; omega, by simp⟩
    · unfold okI
      rw [hb, hall]
      simp
      intro e
      have := h3 (by simp [e])
      rw [this] at hp
      exact absurd hp (by decide)
    · unfold valI
      rw [hb]
      exact if_pos (by simp)
    · rw [List.all_cons, hS]; rfl
theorem plC_39 {s : T} (h : s.all plC = true) : 39 ∉ s := fun hm => by
  have := List.all_eq_true.mp h _ hm
  exact absurd this (by decide)
theorem head_app {t r : T} {P : Nat → Prop} (ht : t ≠ []) (h : ∀ c, t.head? = some c → P c) : ∀ c, (t ++ r).head? = some c → P c := by
  cases t with
  | nil => exact absurd rfl ht
  | cons a t => exact h
/-! a datum's text is read -/
theorem leaf_read {d : Mn.D} {t r : T} {top : List Mn.D} {more : Sk} {pv : Bool} {out : Option Mn.D} (h : Leaf d t) (hr : ∀ c, r.head? = some c → isS c = false) (q : Rd ((top ++ [d]) :: more) false false r out) : Rd (top :: more) pv true (t ++ r) out := by
  rcases h with ⟨i, rfl, h⟩ | ⟨s, rfl, h1, h2, rfl⟩
  · obtain ⟨h1, h2, h3, h4, h5⟩ := lfi_ok h
    refine .int h3 hr (by omega) h1 ?_
    rw [h2]; exact q
  · have e : (39 :: (s ++ [39])) ++ r = 39 :: (s ++ 39 :: r) := by simp
    rw [e]
    exact .str (plC_39 h1) h1 q
theorem rows_read {k : Nat} (ih : ∀ {d : Mn.D} {t r : T} {top : List Mn.D} {more : Sk} {pv : Bool} {out : Option Mn.D}, Dat k d t → k + more.length ≤ 200 → (∀ c, r.head? = some c → isS c = false) → Rd ((top ++ [d]) :: more) false false r out → Rd (top :: more) pv true (t ++ r) out) :
    ∀ (rows : List (Mn.D × T)) (top nx : List Mn.D) (more : Sk) (pv : Bool) (r : T) (out : Option Mn.D), rows ≠ [] → (∀ p ∈ rows, Dat k p.1 p.2) → k + more.length + 1 ≤ 200 → Rd ((nx ++ [.tup (top ++ rows.map (·.1))]) :: more) false false r out → Rd (top :: nx :: more) pv true (joinL [44, 32] (rows.map (·.2)) ++ 41 :: r) out
  | [], _, _, _, _, _, _, h, _, _, _ => absurd rfl h
  | [p], top, nx, more, pv, r, out, _, hd, hk, q => by
    show Rd (top :: nx :: more) pv true (p.2 ++ 41 :: r) out
    refine ih (hd p (by simp)) (by simp; omega) (fun c hc => by simp at hc; subst hc; decide) (.cls (.inl rfl) ?_)
    simpa using q
  | p :: p2 :: rows, top, nx, more, pv, r, out, _, hd, hk, q => by
    have e : joinL [44, 32] ((p :: p2 :: rows).map (·.2)) ++ 41 :: r = p.2 ++ 44 :: 32 :: (joinL [44, 32] ((p2 :: rows).map (·.2)) ++ 41 :: r) := by
      simp [TL.joinL]
    rw [e]
    refine ih (hd p (by simp)) (by simp; omega) (fun c hc => by simp at hc; subst hc; decide) (.com (by simp) ?_)
    refine rows_read ih (p2 :: rows) (top ++ [p.1]) nx more false r out (by simp) (fun x hx => hd x (by simp at hx ⊢; exact .inr hx)) hk ?_
    simpa using q
theorem dat_read : ∀ (k : Nat) {d : Mn.D} {t r : T} {top : List Mn.D} {more : Sk} {pv : Bool} {out : Option Mn.D}, Dat k d t → k + more.length ≤ 200 → (∀ c, r.head? = some c → isS c = false) → Rd ((top ++ [d]) :: more) false false r out → Rd (top :: more) pv true (t ++ r) out
  | 0, _, _, _, _, _, _, _, h, _, hr, q => leaf_read h hr q
  | k + 1, d, t, r, top, more, pv, out, h, hk, hr, q => by
    rcases h with h | ⟨rows, h1, h2, rfl, rfl⟩
    · exact leaf_read h hr q
    · have e : (40 :: (joinL [44, 32] (rows.map (·.2)) ++ [41])) ++ r = 40 :: (joinL [44, 32] (rows.map (·.2)) ++ 41 :: r) := by simp
      rw [e]
      refine .opn (by simp; omega) ?_
      by_cases h0 : rows = []
      · subst h0
        exact .cls (.inr rfl) q
      · exact rows_read (fun {d t r top more pv out} => dat_read k) rows [] top more true r out h0 h2 (by omega) q
/-! a line feed within -/
theorem nl_fresh {st : Sk} {pv : Bool} {tl : T} : Rd st pv true (10 :: tl) none :=
  .intBad (run := []) (r := 10 :: tl) (c := 10) rfl (by decide) (by decide) (fun z => absurd z (by decide)) rfl (fun c hc => by simp at hc; subst hc; decide) (by simp) (by decide)
theorem nl_after {st : Sk} {pv : Bool} {tl : T} : Rd st pv false (10 :: tl) none :=
  .stop (fun z => absurd z (by decide)) (fun z => by simp at z)
theorem first_39 {l : T} (h : 39 ∈ l) : ∃ x y, l = x ++ 39 :: y ∧ 39 ∉ x := by
  induction l with
  | nil => simp at h
  | cons a l ih =>
    by_cases ha : a = 39
    · exact ⟨[], l, by simp [ha], by simp⟩
    · obtain ⟨x, y, e, hn⟩ := ih (by simpa [Ne.symm ha] using h)
      exact ⟨a :: x, y, by simp [e], by simp [Ne.symm ha, hn]⟩
theorem app_cons_split {a b x y : T} {c : Nat} (h : x ++ c :: y = a ++ b) : (∃ b', x = a ++ b') ∨ ∃ a', a = x ++ c :: a' ∧ y = a' ++ b := by
  rcases List.append_eq_append_iff.mp h with ⟨a', e1, e2⟩ | ⟨c', e1, e2⟩
  · cases a' with
    | nil => exact .inl ⟨[], by simpa using e1.symm⟩
    | cons z a' =>
      simp at e2
      obtain ⟨rfl, e2⟩ := e2
      exact .inr ⟨a', e1, e2⟩
  · exact .inl ⟨c', e1⟩
theorem leaf_nl {d : Mn.D} {t a b tl : T} {top : List Mn.D} {more : Sk} {pv : Bool} (h : Leaf d t) (e : t = a ++ b) (hb : b ≠ []) : Rd (top :: more) pv true (a ++ 10 :: tl) none := by
  cases a with
  | nil => exact nl_fresh
  | cons c a =>
    rcases h with ⟨i, rfl, h⟩ | ⟨s, rfl, h1, h2, rfl⟩
    · obtain ⟨_, _, h3, h4, _⟩ := lfi_ok h
      rw [e] at h3 h4
      rw [List.all_append, Bool.and_eq_true] at h3
      have hc : isS c = true := by
        have := h3.1
        rw [List.all_cons, Bool.and_eq_true] at this
        exact this.1
      obtain ⟨n1, n2, n3, n4⟩ := isS_no hc
      have hr : ∀ x, (10 :: tl : T).head? = some x → isS x = false := fun x hx => by simp at hx; subst hx; decide
      by_cases ho : okI (c :: a) = true
      · exact .int h3.1 hr (by simp at h4 ⊢; omega) ho nl_after
      · exact .intBad rfl n1 n2 (fun z => absurd z n3) h3.1 hr (by simp at h4 ⊢; omega) (by simpa using ho)
    · simp at e
      obtain ⟨rfl, e⟩ := e
      have ha : ∃ b', s = a ++ b' := by
        rcases app_cons_split e with h | ⟨a', _, e2⟩
        · exact h
        · have := (List.append_eq_nil_iff.mp e2.symm).2
          exact absurd this hb
      obtain ⟨b', rfl⟩ := ha
      rw [List.all_append, Bool.and_eq_true] at h1
      have hn := plC_39 h1.1
      show Rd (top :: more) pv true (39 :: (a ++ 10 :: tl)) none
      by_cases hm : 39 ∈ tl
      · obtain ⟨x, y, rfl, hx⟩ := first_39 hm
        have e2 : a ++ 10 :: (x ++ 39 :: y) = (a ++ 10 :: x) ++ 39 :: y := by simp
        rw [e2]
        refine .strBad (by simp [hn, hx]) ?_
        rw [List.all_append, List.all_cons, show plC 10 = false by decide]
        simp
      · exact .noq (by simp [hn, hm])
theorem rows_nl {k : Nat} {tl : T} (ih : ∀ {d : Mn.D} {t a b : T} {top : List Mn.D} {more : Sk} {pv : Bool}, Dat k d t → k + more.length ≤ 200 → t = a ++ b → b ≠ [] → Rd (top :: more) pv true (a ++ 10 :: tl) none) :
    ∀ (rows : List (Mn.D × T)) (top : List Mn.D) (nx : List Mn.D) (more : Sk) (pv : Bool) (a b : T), rows ≠ [] → (∀ p ∈ rows, Dat k p.1 p.2) → k + more.length + 1 ≤ 200 → joinL [44, 32] (rows.map (·.2)) ++ [41] = a ++ b → b ≠ [] → Rd (top :: nx :: more) pv true (a ++ 10 :: tl) none
  | [], _, _, _, _, _, _, h, _, _, _, _ => absurd rfl h
  | [p], top, nx, more, pv, a, b, _, hd, hk, e, hb => by
    have e : p.2 ++ 41 :: [] = a ++ b := e
    rcases app_cons_split e with ⟨b', e1⟩ | ⟨a', e1, e2⟩
    · cases b' with
      | nil =>
        rw [List.append_nil] at e1
        rw [← e1]
        exact dat_read k (hd p (by simp)) (by simp; omega) (fun c hc => by simp at hc; subst hc; decide) nl_after
      | cons z b' => exact ih (hd p (by simp)) (by simp; omega) e1 (by simp)
    · exact absurd (List.append_eq_nil_iff.mp e2.symm).2 hb
  | p :: p2 :: rows, top, nx, more, pv, a, b, _, hd, hk, e, hb => by
    have e : p.2 ++ 44 :: 32 :: (joinL [44, 32] ((p2 :: rows).map (·.2)) ++ [41]) = a ++ b := by
      rw [← e]; simp [TL.joinL]
    rcases app_cons_split e with ⟨b', e1⟩ | ⟨a', e1, e2⟩
    · cases b' with
      | nil =>
        rw [List.append_nil] at e1
        rw [← e1]
        exact dat_read k (hd p (by simp)) (by simp; omega) (fun c hc => by simp at hc; subst hc; decide) nl_after
      | cons z b' => exact ih (hd p (by simp)) (by simp; omega) e1 (by simp)
    · subst e1
      have e3 : p.2 ++ 44 :: a' ++ 10 :: tl = p.2 ++ 44 :: (a' ++ 10 :: tl) := by simp
      rw [e3]
      refine dat_read k (hd p (by simp)) (by simp; omega) (fun c hc => by simp at hc; subst hc; decide) ?_
      cases a' with
      | nil => exact .stop (fun z => absurd z (by decide)) (fun z => by simp at z)
      | cons z a' =>
        simp at e2
        obtain ⟨rfl, e2⟩ := e2
        refine .com (by simp) ?_
        exact rows_nl ih (p2 :: rows) _ nx more false a' b (by simp) (fun x hx => hd x (by simp at hx ⊢; exact .inr hx)) hk (by simpa using e2) hb
theorem dat_nl {tl : T} : ∀ (k : Nat) {d : Mn.D} {t a b : T} {top : List Mn.D} {more : Sk} {pv : Bool}, Dat k d t → k + more.length ≤ 200 → t = a ++ b → b ≠ [] → Rd (top :: more) pv true (a ++ 10 :: tl) none
  | 0, _, _, _, _, _, _, _, h, _, e, hb => leaf_nl h e hb
  | k + 1, d, t, a, b, top, more, pv, h, hk, e, hb => by
    rcases h with h | ⟨rows, h1, h2, rfl, rfl⟩
    · exact leaf_nl h e hb
    · cases a with
      | nil => exact nl_fresh
      | cons c a =>
        simp only [List.cons_append, List.cons.injEq] at e
        obtain ⟨rfl, e⟩ := e
        refine .opn (by simp; omega) ?_
        by_cases h0 : rows = []
        · subst h0
          have e : [] ++ 41 :: [] = a ++ b := e
          rcases app_cons_split e with ⟨b', e1⟩ | ⟨a', e1, e2⟩
          · have := (List.append_eq_nil_iff.mp e1.symm).1
            subst this
            exact nl_fresh
          · exact absurd (List.append_eq_nil_iff.mp e2.symm).2 hb
        · exact rows_nl (fun {d t a b top more pv} => dat_nl k) rows [] top more true a b h0 h2 (by omega) e hb
end K33

set_option Elab.async false
set_option linter.all false
set_option maxRecDepth 100000
set_option maxHeartbeats 4000000
namespace K33
open Mn PySem PySem.Spec PyProof.Rows L2
open TL (numL joinL)
open PySem.NumText renaming AllDigits → AD, digitsVal → dv
/-! write_data, _law_same, the nest -/
theorem v_addS' {s t : T} (h : s.length + t.length ≤ 16000000) : pAdd [.fz (.str s), .fz (.str t)] = some (.fz (.str (s ++ t))) := by
  have := szS _ h
  simp [pAdd, orO, pAddI, dII, catS, this]
theorem lfi_write {n : Nat} {i : Int} {t : T} (h : LfI i t) : sem (n + 2) 0 [.fz (.int i)] = .ok (.fz (.str t)) none := by
  obtain ⟨ds, hc, hl, hh⟩ := h
  have hb : dv ds < BN ^ 200 := Nat.lt_of_lt_of_le (dv_lt hc.1) (Nat.le_trans (Nat.pow_le_pow_right (by omega) hl) (Nat.pow_le_pow_left (by decide) 200))
  have hn := numL_canon hc
  rcases hh with ⟨rfl, rfl⟩ | ⟨hp, rfl, rfl⟩
  · have := wi_nat (n := n + 1) (dv t) hb
    rw [hn] at this
    exact this
  · have := wi_neg (n := n) (dv ds) hb hp
    rw [hn] at this
    exact this
theorem joinL_len (sep : T) : ∀ ys : List T, (ys.map List.length).sum + ys.length * sep.length ≤ (joinL sep ys).length + sep.length
  | [] => by simp
  | [y] => by simp [TL.joinL]
  | x :: y :: r => by
    have := joinL_len sep (y :: r)
    simp only [TL.joinL, List.map_cons, List.sum_cons, List.length_cons, List.length_append, Nat.add_mul, Nat.one_mul] at this ⊢
    omega
theorem wd_ok {n : Nat} : ∀ (k : Nat) {d : Mn.D} {t : T}, Dat k d t → t.length ≤ 15000000 → sem (n + k + 3) 2 [.fz d] = .ok (.fz (.str t)) none := by
  have leaf : ∀ (k : Nat) {d : Mn.D} {t : T}, Leaf d t → sem (n + k + 3) 2 [.fz d] = .ok (.fz (.str t)) none := by
    intro k d t h
    rw [e2]
    rcases h with ⟨i, rfl, h⟩ | ⟨s, rfl, h1, h2, rfl⟩
    · have h1 : mTru (mIsi "tuple" (mVar 0)) [some (.fz (.int i)), none] = .ok false [some (.fz (.int i)), none] := by simp
      have h2 : mTru (mIsi "str" (mVar 0)) [some (.fz (.int i)), none] = .ok false [some (.fz (.int i)), none] := by simp
      exact fn_ret (x_seq (x_ifF h1 rfl) (x_seq (x_ifF h2 rfl) (x_ret (x_c1 (ev_var rfl) (lfi_write h)))))
    · have g1 : mTru (mIsi "tuple" (mVar 0)) [some (.fz (.str s)), none] = .ok false [some (.fz (.str s)), none] := by simp
      have g2 : mTru (mIsi "str" (mVar 0)) [some (.fz (.str s)), none] = .ok true [some (.fz (.str s)), none] := by simp
      have a1 := v_addS' (s := [39]) (t := s) (by simp; omega)
      have a2 := v_addS' (s := [39] ++ s) (t := [39]) (by simp; omega)
      exact fn_ret (x_seq (x_ifF g1 rfl) (x_seqR (x_ifT g2 (x_ret (x_p2 (x_p2 (ev_lit _ _) (ev_var rfl) a1) (ev_lit _ _) a2)))))
  intro k
  induction k with
  | zero => exact fun h _ => leaf 0 h
  | succ k ih =>
    intro d t h hl
    rcases h with h | ⟨rows, h1, h2, rfl, rfl⟩
    · exact leaf (k + 1) h
    · have hj := joinL_len [44, 32] (rows.map (·.2))
      simp at hl hj
      have hlen : ∀ p ∈ rows, p.2.length ≤ 15000000 := fun p hp => by
        have hm : p.2.length ≤ ((rows.map (·.2)).map List.length).sum := by
          have : ∀ (l : List Nat) (x : Nat), x ∈ l → x ≤ l.sum := by
            intro l x hx
            induction l with
            | nil => simp at hx
            | cons y l ih =>
              rw [List.sum_cons]
              rcases List.mem_cons.mp hx with e | e
              · omega
              · have := ih e; omega
          exact this _ _ (List.mem_map.mpr ⟨p.2, List.mem_map.mpr ⟨p, hp, rfl⟩, rfl⟩)
        simp at hm
        omega
      rw [show n + (k + 1) + 3 = (n + k + 3) + 1 by omega, e2]
      generalize hds : rows.map (·.1) = ds
      have g1 : mTru (mIsi "tuple" (mVar 0)) [some (.fz (.tup ds)), none] = .ok true [some (.fz (.tup ds)), none] := by simp
      have hc := comp_map (own := [1]) (t := tName 1) (mi := iVal (mVar 0)) (m := mCall (sem (n + k + 3) 2) (mCons (mVar 1) mNil)) (E := [some (.fz (.tup ds)), none]) (E0 := [some (.fz (.tup ds)), none]) (E1 := [some (.fz (.tup ds)), none]) (xs := rows) (·.1) (fun p => .fz (.str p.2))
        (x_val (ev_var rfl) (by rw [toD_fz, it_tup, hds])) rfl (fun p hp => ⟨[some (.fz (.tup ds)), some (.fz p.1)], [some (.fz (.tup ds)), some (.fz p.1)], rfl, x_c1 (ev_var rfl) (ih (h2 p hp) (hlen p hp)), rfl⟩) (by omega)
      have hjn := v_join (sep := [44, 32]) (o := .lst (rows.map fun p => .fz (.str p.2))) (ys := rows.map (·.2)) (by rw [toD_lst, toDs_map' (fun p : Mn.D × T => Mn.D.str p.2)]; simp [itemsOf, List.map_map, Function.comp_def]) (by simp; omega)
      have hm : mStrM tJoin (mLit (.str [44, 32])) (mCons (mComp [1] (tName 1) (iVal (mVar 0)) mYes (mCall (sem (n + k + 3) 2) (mCons (mVar 1) mNil))) mNil) [some (.fz (.tup ds)), none] = .ok (.fz (.str (joinL [44, 32] (rows.map (·.2))))) [some (.fz (.tup ds)), none] := by
        rw [ev_strM, ev_lit, bind_ok']
        simp only [str_fz]
        rw [ev_cons, hc, bind_ok', ev_nil, bind_ok', bind_ok']
        simp only [hjn]
      have a1 := v_addS' (s := [40]) (t := joinL [44, 32] (rows.map (·.2))) (by simp; omega)
      have a2 := v_addS' (s := [40] ++ joinL [44, 32] (rows.map (·.2))) (t := [41]) (by simp; omega)
      have := x_ret (x_p2 (x_p2 (ev_lit (.str [40]) [some (.fz (.tup ds)), none]) hm a1) (ev_lit (.str [41]) _) a2)
      refine Eq.trans (fn_ret (x_seqR (x_ifT g1 this))) ?_
      simp
theorem dat_pl : ∀ (k : Nat) {d : Mn.D} {t : T}, Dat k d t → Pl k d := by
  have leaf : ∀ (k : Nat) {d : Mn.D} {t : T}, Leaf d t → Pl k d := by
    intro k d t h
    rcases h with ⟨i, rfl, _⟩ | ⟨s, rfl, _⟩
    · exact .int
    · exact .str
  intro k
  induction k with
  | zero => exact fun h => leaf 0 h
  | succ k ih =>
    intro d t h
    rcases h with h | ⟨rows, h1, h2, rfl, rfl⟩
    · exact leaf _ h
    · refine .tup (by simp; omega) fun d hd => ?_
      obtain ⟨p, hp, rfl⟩ := List.mem_map.mp hd
      exact ih (h2 p hp)
def LB : Nat → Nat
  | 0 => 201
  | k + 1 => 4 * LB k + 12
theorem LB_ge : ∀ k, 201 ≤ LB k
  | 0 => Nat.le_refl _
  | k + 1 => by have := LB_ge k; simp [LB]; omega
theorem joinL_le (sep : T) : ∀ ys : List T, (joinL sep ys).length ≤ (ys.map List.length).sum + ys.length * sep.length
  | [] => by simp [TL.joinL]
  | [y] => by simp [TL.joinL]
  | x :: y :: r => by
    have := joinL_le sep (y :: r)
    simp only [TL.joinL, List.map_cons, List.sum_cons, List.length_cons, List.length_append, Nat.add_mul, Nat.one_mul] at this ⊢
    omega
theorem leaf_len {d : Mn.D} {t : T} (h : Leaf d t) : t.length ≤ 201 := by
  rcases h with ⟨i, rfl, h⟩ | ⟨s, rfl, h1, h2, rfl⟩
  · exact (lfi_ok h).2.2.2.1
  · simp; omega
theorem dat_len : ∀ (k : Nat) {d : Mn.D} {t : T}, Dat k d t → t.length ≤ LB k := by
  intro k
  induction k with
  | zero => exact fun h => leaf_len h
  | succ k ih =>
    intro d t h
    rcases h with h | ⟨rows, h1, h2, rfl, rfl⟩
    · have := leaf_len h
      have := LB_ge (k + 1)
      omega
    · have hj := joinL_le [44, 32] (rows.map (·.2))
      have hs := sum_len (cs := rows.map (·.2)) (B := LB k) (fun t ht => by
        obtain ⟨p, hp, rfl⟩ := List.mem_map.mp ht
        exact ih (h2 p hp))
      have := Nat.mul_le_mul h1 (Nat.le_refl (LB k))
      simp at hj hs ⊢
      unfold LB
      omega
def nestD : Nat → Mn.D → Mn.D
  | 0, d => d
  | k + 1, d => .tup [nestD k d]
theorem nest_dat {i : Int} {t : T} (h : LfI i t) : ∀ k : Nat, Dat k (nestD k (.int i)) (List.replicate k 40 ++ t ++ List.replicate k 41)
  | 0 => by
    have e : List.replicate 0 40 ++ t ++ List.replicate 0 41 = t := by simp
    rw [e]
    exact .inl ⟨i, rfl, h⟩
  | k + 1 => by
    refine .inr ⟨[(nestD k (.int i), List.replicate k 40 ++ t ++ List.replicate k 41)], by simp, fun p hp => ?_, rfl, ?_⟩
    · rw [List.mem_singleton] at hp; subst hp; exact nest_dat h k
    · rw [show joinL [44, 32] ([(nestD k (.int i), List.replicate k 40 ++ t ++ List.replicate k 41)].map (·.2)) = List.replicate k 40 ++ t ++ List.replicate k 41 from rfl, List.replicate_succ, List.replicate_succ' (n := k) (a := 41)]
      simp
theorem deep_bad {X : T} : ∀ (m : Nat) (st : Sk) (pv : Bool), st.length ≤ 201 → 201 < st.length + m → Rd st pv true (List.replicate m 40 ++ X) none
  | 0, st, _, h1, h2 => by omega
  | m + 1, st, pv, h1, h2 => by
    rw [List.replicate_succ, List.cons_append]
    by_cases h : st.length ≤ 200
    · exact .opn h (deep_bad m _ _ (by simp; omega) (by simp; omega))
    · exact .deep (by omega)
end K33

set_option Elab.async false
set_option linter.all false
set_option maxRecDepth 100000
set_option maxHeartbeats 4000000
namespace K33
open Mn PySem PySem.Spec PyProof.Rows L2
open TL (numL joinL)
open PySem.NumText renaming AllDigits → AD, digitsVal → dv
/-! what is drawn -/
theorem dr_ok {n : Nat} : Draws (sem (n + 1) 7) := by
  rw [e7]
  exact drawB_ok
theorem x_draw {G : Nat → List O → Cr} {E : En} {i : Nat} {s s' o : O} {k : Int} (h : E[i]? = some (some s)) (hg : G 7 [s, .fz (.int k)] = .ok o (some s')) : mCallS (G 7) i (mCons (mLit (.int k)) mNil) E = .ok o (E.set i (some s')) := by
  rw [ev_callS _ _ h, ev_cons, ev_lit, bind_ok', ev_nil, bind_ok', bind_ok']
  simp only [h, hg]
abbrev EI (s : O) (m p : Int) (ds : T) (k g : Option O) : En := [some s, some (.fz (.int m)), some (.fz (.int p)), some (.fz (.str ds)), some (.fz (.int ((dv ds : Nat) : Int))), k, g]
abbrev nI (k : Nat) : Option O := some (.fz (.int (k : Int)))
def idB (G : Nat → List O → Cr) : Ms := (mSeq (mAsg (tName 6) (mCallS (G 7) 0 (mCons (mLit (.int 10)) mNil)))
    (mSeq (mIf (mAsB (mPrim (g2 (qEq false)) (mCons (mVar 2) (mCons (mLit (.int 0)) mNil))))
    (mAsg (tName 6) (mLit (.int 9)))
    (mIf (mAsB (mPrim (g2 (qEq false)) (mCons (mVar 2) (mCons (mLit (.int 1)) mNil))))
    (mAsg (tName 6) (mPrim (g1 dOfInt) (mCons (mPrim (g2 (qEq false)) (mCons (mVar 5) (mCons (mLit (.int 0)) mNil))) mNil)))
    mDone))
    (mSeq (mIf (mAnd (mAsB (mPrim (g2 (qEq false)) (mCons (mVar 5) (mCons (mLit (.int 0)) mNil)))) (mAsB (mPrim (g2 (qEq false)) (mCons (mVar 6) (mCons (mLit (.int 0)) mNil)))))
    (mAsg (tName 6) (mPrim (g1 dOfInt) (mCons (mPrim pGt (mCons (mVar 1) (mCons (mLit (.int 1)) mNil))) mNil)))
    mDone)
    (mSeq (mAsg (tName 3) (mPrim pAdd (mCons (mVar 3) (mCons (mPrim pItem (mCons (mLit (.str [48, 49, 50, 51, 52, 53, 54, 55, 56, 57])) (mCons (mVar 6) mNil))) mNil))))
    (mAsg (tName 4) (mPrim pAdd (mCons (mPrim pMulI (mCons (mLit (.int 10)) (mCons (mVar 4) mNil))) (mCons (mVar 6) mNil))))))))
theorem v_ofBl (b : Bool) : g1 dOfInt [.fz (.bl b)] = some (.fz (.int (if b then 1 else 0))) := by
  show (dOfInt (O.toD (.fz (.bl b)))).map O.fz = _
  rw [toD_fz]
  rfl
theorem v_dig {g : Nat} (h : g ≤ 9) : pItem [.fz (.str [48, 49, 50, 51, 52, 53, 54, 55, 56, 57]), .fz (.int (g : Int))] = some (.fz (.str [48 + g])) := by
  have hi := item_str (s := [48, 49, 50, 51, 52, 53, 54, 55, 56, 57]) (i := g) (c := 48 + g) (by
    have : g = 0 ∨ g = 1 ∨ g = 2 ∨ g = 3 ∨ g = 4 ∨ g = 5 ∨ g = 6 ∨ g = 7 ∨ g = 8 ∨ g = 9 := by omega
    rcases this with rfl | rfl | rfl | rfl | rfl | rfl | rfl | rfl | rfl | rfl <;> rfl) (by simp)
  unfold pItem
  simp only [toD_fz, hi, Option.map_some]
theorem id_turn {G : Nat → List O → Cr} (hd : Draws (G 7)) {C k : Nat} {s : O} {m p : Int} {ds : T} {g : Option O} (h : St C s) (hC : C < 2 ^ 60) (hA : AD ds) (hl : ds.length ≤ 200) :
    ∃ s' x, idB G (EI s m p ds (nI k) g) = .next (EI s' m p (ds ++ [48 + x]) (nI k) (nI x)) ∧ x ≤ 9 ∧ (k = 0 → x = 0 → m ≤ 1) ∧ St (C + 1) s' := by
  obtain ⟨n, s', a1, a2, a3, a4⟩ := hd C s h hC 10 (by omega) (by omega)
  obtain ⟨y, rfl⟩ : ∃ y : Nat, n = (y : Int) := ⟨n.toNat, by omega⟩
  have r1 : mAsg (tName 6) (mCallS (G 7) 0 (mCons (mLit (.int 10)) mNil)) (EI s m p ds (nI k) g) = .next (EI s' m p ds (nI k) (nI y)) := x_asg (x_draw rfl a1) rfl
  -- the pick
  have r2 : ∃ y2 : Nat, y2 ≤ 9 ∧ mIf (mAsB (mPrim (g2 (qEq false)) (mCons (mVar 2) (mCons (mLit (.int 0)) mNil)))) (mAsg (tName 6) (mLit (.int 9)))
    (mIf (mAsB (mPrim (g2 (qEq false)) (mCons (mVar 2) (mCons (mLit (.int 1)) mNil)))) (mAsg (tName 6) (mPrim (g1 dOfInt) (mCons (mPrim (g2 (qEq false)) (mCons (mVar 5) (mCons (mLit (.int 0)) mNil))) mNil))) mDone) (EI s' m p ds (nI k) (nI y)) = .next (EI s' m p ds (nI k) (nI y2)) := by
    have c1 := x_asB (x_p2 (E := EI s' m p ds (nI k) (nI y)) (m1 := mVar 2) (m2 := mLit (.int 0)) (ev_var rfl) (ev_lit _ _) (v_eqI p 0))
    have c2 := x_asB (x_p2 (E := EI s' m p ds (nI k) (nI y)) (m1 := mVar 2) (m2 := mLit (.int 1)) (ev_var rfl) (ev_lit _ _) (v_eqI p 1))
    by_cases h0 : p = 0
    · rw [decide_eq_true h0] at c1
      exact ⟨9, by omega, x_ifT c1 (x_asg (ev_lit _ _) rfl)⟩
    · rw [decide_eq_false h0] at c1
      by_cases h1 : p = 1
      · rw [decide_eq_true h1] at c2
        have c3 := x_p1 (x_p2 (E := EI s' m p ds (nI k) (nI y)) (m1 := mVar 5) (m2 := mLit (.int 0)) (ev_var rfl) (ev_lit _ _) (v_eqI (k : Int) 0)) (v_ofBl _)
        by_cases hk : (k : Int) = 0
        · rw [decide_eq_true hk] at c3
          exact ⟨1, by omega, x_ifF c1 (x_ifT c2 (x_asg c3 rfl))⟩
        · rw [decide_eq_false hk] at c3
          exact ⟨0, by omega, x_ifF c1 (x_ifT c2 (x_asg c3 rfl))⟩
      · rw [decide_eq_false h1] at c2
        exact ⟨y, by omega, x_ifF c1 (x_ifF c2 rfl)⟩
  obtain ⟨y2, hy2, r2⟩ := r2
  have r3 : ∃ x : Nat, x ≤ 9 ∧ (k = 0 → x = 0 → m ≤ 1) ∧ mIf (mAnd (mAsB (mPrim (g2 (qEq false)) (mCons (mVar 5) (mCons (mLit (.int 0)) mNil)))) (mAsB (mPrim (g2 (qEq false)) (mCons (mVar 6) (mCons (mLit (.int 0)) mNil)))))
    (mAsg (tName 6) (mPrim (g1 dOfInt) (mCons (mPrim pGt (mCons (mVar 1) (mCons (mLit (.int 1)) mNil))) mNil))) mDone (EI s' m p ds (nI k) (nI y2)) = .next (EI s' m p ds (nI k) (nI x)) := by
    have c1 := x_asB (x_p2 (E := EI s' m p ds (nI k) (nI y2)) (m1 := mVar 5) (m2 := mLit (.int 0)) (ev_var rfl) (ev_lit _ _) (v_eqI (k : Int) 0))
    have c2 := x_asB (x_p2 (E := EI s' m p ds (nI k) (nI y2)) (m1 := mVar 6) (m2 := mLit (.int 0)) (ev_var rfl) (ev_lit _ _) (v_eqI (y2 : Int) 0))
    have c := x_and c1 (fun _ => c2) fun _ => rfl
    by_cases hk : (k : Int) = 0
    · by_cases hy : (y2 : Int) = 0
      · rw [decide_eq_true hk, decide_eq_true hy] at c
        have c3 := x_p1 (x_p2 (E := EI s' m p ds (nI k) (nI y2)) (m1 := mVar 1) (m2 := mLit (.int 1)) (ev_var rfl) (ev_lit _ _) (v_gt m 1)) (v_ofBl _)
        by_cases hm : 1 < m
        · rw [decide_eq_true hm] at c3
          exact ⟨1, by omega, fun _ z => by omega, x_ifT c (x_asg c3 rfl)⟩
        · rw [decide_eq_false hm] at c3
          exact ⟨0, by omega, fun _ _ => by omega, x_ifT c (x_asg c3 rfl)⟩
      · rw [decide_eq_true hk, decide_eq_false hy] at c
        exact ⟨y2, hy2, fun _ z => by omega, x_ifF c rfl⟩
    · rw [decide_eq_false hk] at c
      exact ⟨y2, hy2, fun z _ => by omega, x_ifF c rfl⟩
  obtain ⟨x, hx, hx0, r3⟩ := r3
  have v4 := v_addS (s := ds) (t := [48 + x]) (by simp; omega)
  have r4 : mAsg (tName 3) (mPrim pAdd (mCons (mVar 3) (mCons (mPrim pItem (mCons (mLit (.str [48, 49, 50, 51, 52, 53, 54, 55, 56, 57])) (mCons (mVar 6) mNil))) mNil))) (EI s' m p ds (nI k) (nI x)) = .next [some s', some (.fz (.int m)), some (.fz (.int p)), some (.fz (.str (ds ++ [48 + x]))), some (.fz (.int ((dv ds : Nat) : Int))), nI k, nI x] :=
    x_asg (x_p2 (ev_var rfl) (x_p2 (ev_lit _ _) (ev_var rfl) (v_dig hx)) v4) rfl
  have v5 := v_mulI (i := 10) (j := ((dv ds : Nat) : Int)) (by
    have := log_dv hA (by omega)
    have h2 : (10 : Int).natAbs.log2 < 10 := by decide
    omega)
  have v6 : pAdd [.fz (.int (10 * ((dv ds : Nat) : Int))), .fz (.int (x : Int))] = some (.fz (.int ((dv (ds ++ [48 + x]) : Nat) : Int))) := by
    rw [v_addI, dv_snoc]
    congr 3
    omega
  have r5 : mAsg (tName 4) (mPrim pAdd (mCons (mPrim pMulI (mCons (mLit (.int 10)) (mCons (mVar 4) mNil))) (mCons (mVar 6) mNil))) [some s', some (.fz (.int m)), some (.fz (.int p)), some (.fz (.str (ds ++ [48 + x]))), some (.fz (.int ((dv ds : Nat) : Int))), nI k, nI x] = .next (EI s' m p (ds ++ [48 + x]) (nI k) (nI x)) :=
    x_asg (x_p2 (x_p2 (ev_lit _ _) (ev_var rfl) v5) (ev_var rfl) v6) rfl
  exact ⟨s', x, x_seq r1 (x_seq r2 (x_seq r3 (x_seq r4 r5))), hx, hx0, a4⟩
theorem id_loop {G : Nat → List O → Cr} (hd : Draws (G 7)) {m p : Int} : ∀ (q k C : Nat) (s : O) (ds : T) (a b : Option O), St C s → C + q < 2 ^ 60 → AD ds → ds.length = k → k + q ≤ 200 → (ds.head? = some 48 → m ≤ 1) →
    ∃ s' ds' a' b', fIter (tName 5) (idB G) ((List.range' k q).map fun (i : Nat) => Mn.D.int (i : Int)) (EI s m p ds a b) = .next (EI s' m p ds' a' b') ∧ AD ds' ∧ ds'.length = k + q ∧ (ds'.head? = some 48 → m ≤ 1) ∧ St (C + q) s'
  | 0, k, C, s, ds, a, b, h, _, hA, hl, _, h0 => ⟨s, ds, a, b, rfl, hA, hl, h0, h⟩
  | q + 1, k, C, s, ds, a, b, h, hC, hA, hl, hk, h0 => by
    obtain ⟨s1, x, t1, t2, t3, t4⟩ := id_turn (k := k) (m := m) (p := p) (g := b) hd h (by omega) hA (by omega)
    obtain ⟨s', ds', a', b', i1, i2, i3, i4, i5⟩ := id_loop hd (m := m) (p := p) q (k + 1) (C + 1) s1 (ds ++ [48 + x]) (nI k) (nI x) t4 (by omega) (ad_app.mpr ⟨hA, fun c hc => by simp at hc; omega⟩) (by simp [hl]) (by omega) (fun e => by
      cases ds with
      | nil =>
        simp at e hl
        exact t3 hl.symm e
      | cons c r => exact h0 (by simpa using e))
    refine ⟨s', ds', a', b', ?_, i2, by omega, i4, by rw [show C + (q + 1) = C + 1 + q by omega]; exact i5⟩
    rw [List.range'_succ, List.map_cons]
    unfold fIter
    rw [ev_name, fl_ok']
    simp only [List.set_cons_succ, List.set_cons_zero]
    rw [t1]
    exact i1
end K33

set_option Elab.async false
set_option linter.all false
set_option maxRecDepth 100000
set_option maxHeartbeats 4000000
namespace K33
open Mn PySem PySem.Spec PyProof.Rows L2
open TL (numL joinL)
open PySem.NumText renaming AllDigits → AD, digitsVal → dv
theorem fn_retS {k : Nat} {B : Ms} {os : List O} {o s' : O} {E : En} (h : B (os.map some ++ List.replicate k none) = .ret o (some s' :: E)) : fnOf true k B os = .ok o (some s') := by
  simp only [fnOf]
  rw [h]
  rfl
/-- draws an integer -/
def Ints (φ : List O → Cr) : Prop := ∀ (C : Nat) (s : O), St C s → C + 1000 < 2 ^ 60 → ∃ i t s', φ [s] = .ok (.fz (.tup [.int i, .str t])) (some s') ∧ LfI i t ∧ St (C + 300) s'
theorem many_ok {a j : Int} (ha : 0 ≤ a ∧ a < 180) (hj : 0 ≤ j ∧ j < 7) : ∃ m : Nat, 1 ≤ m ∧ m ≤ 180 ∧ pItem [.lst [.fz (.int 1), .fz (.int 2), .fz (.int 5), .fz (.int 63), .fz (.int 64), .fz (.int 65), .fz (.int (1 + a))], .fz (.int j)] = some (.fz (.int (m : Int))) := by
  have : j = 0 ∨ j = 1 ∨ j = 2 ∨ j = 3 ∨ j = 4 ∨ j = 5 ∨ j = 6 := by omega
  rcases this with rfl | rfl | rfl | rfl | rfl | rfl | rfl
  · exact ⟨1, by omega, by omega, by simp [pItem, atI, ixN]⟩
  · exact ⟨2, by omega, by omega, by simp [pItem, atI, ixN]⟩
  · exact ⟨5, by omega, by omega, by simp [pItem, atI, ixN]⟩
  · exact ⟨63, by omega, by omega, by simp [pItem, atI, ixN]⟩
  · exact ⟨64, by omega, by omega, by simp [pItem, atI, ixN]⟩
  · exact ⟨65, by omega, by omega, by simp [pItem, atI, ixN]⟩
  · refine ⟨(1 + a).toNat, by omega, by omega, ?_⟩
    rw [Int.toNat_of_nonneg (by omega)]
    simp [pItem, atI, ixN]
theorem z7 : 7 ≤ sizeLine := szt _ (by omega)
theorem int_drawn {G : Nat → List O → Cr} (hd : Draws (G 7)) : Ints (fnOf true 6 (B11 G)) := by
  intro C s h hC
  obtain ⟨a, s1, a1, a2, a3, a4⟩ := hd C s h (by omega) 180 (by omega) (by omega)
  obtain ⟨j, s2, b1, b2, b3, b4⟩ := hd _ s1 a4 (by omega) 7 (by omega) (by omega)
  obtain ⟨p, s3, c1, c2, c3, c4⟩ := hd _ s2 b4 (by omega) 4 (by omega) (by omega)
  obtain ⟨m, m1, m2, m3⟩ := many_ok ⟨a2, a3⟩ ⟨b2, b3⟩
  have z7 := z7
  have r1 : mAsg (tName 1) (mPrim pItem (mCons (mPrim pLst (mCons (mLit (.int 1)) (mCons (mLit (.int 2)) (mCons (mLit (.int 5)) (mCons (mLit (.int 63)) (mCons (mLit (.int 64)) (mCons (mLit (.int 65)) (mCons (mPrim pAdd (mCons (mLit (.int 1)) (mCons (mCallS (G 7) 0 (mCons (mLit (.int 180)) mNil)) mNil))) mNil)))))))) (mCons (mCallS (G 7) 0 (mCons (mLit (.int 7)) mNil)) mNil))) [some s, none, none, none, none, none, none]
      = .next [some s2, some (.fz (.int (m : Int))), none, none, none, none, none] := by
    refine x_asg (o := .fz (.int (m : Int))) (E1 := [some s2, none, none, none, none, none, none]) (x_p2 (o1 := .lst [.fz (.int 1), .fz (.int 2), .fz (.int 5), .fz (.int 63), .fz (.int 64), .fz (.int 65), .fz (.int (1 + a))]) (E1 := [some s1, none, none, none, none, none, none]) ?_ (x_draw rfl b1) m3) rfl
    have hdraw : mPrim pAdd (mCons (mLit (.int 1)) (mCons (mCallS (G 7) 0 (mCons (mLit (.int 180)) mNil)) mNil)) [some s, none, none, none, none, none, none] = .ok (.fz (.int (1 + a))) [some s1, none, none, none, none, none, none] := x_p2 (ev_lit _ _) (x_draw rfl a1) (v_addI _ _)
    simp only [ev_prim, ev_cons, ev_lit, bind_ok', ev_nil]
    rw [ev_callS (s := s) _ _ rfl]
    simp only [ev_cons, ev_lit, bind_ok', ev_nil, List.getElem?_cons_zero, a1, v_addI, v_lst, List.length_cons, List.length_nil]
    rw [if_pos (show 0 + 1 + 1 + 1 + 1 + 1 + 1 + 1 ≤ sizeLine from z7)]
    rfl
  have r2 : mAsg (tName 2) (mCallS (G 7) 0 (mCons (mLit (.int 4)) mNil)) [some s2, some (.fz (.int (m : Int))), none, none, none, none, none] = .next [some s3, some (.fz (.int (m : Int))), some (.fz (.int p)), none, none, none, none] := x_asg (x_draw rfl c1) rfl
  have r3 : mAsg (tName 3) (mLit (.str [])) [some s3, some (.fz (.int (m : Int))), some (.fz (.int p)), none, none, none, none] = .next [some s3, some (.fz (.int (m : Int))), some (.fz (.int p)), some (.fz (.str [])), none, none, none] := x_asg (ev_lit _ _) rfl
  have r4 : mAsg (tName 4) (mLit (.int 0)) [some s3, some (.fz (.int (m : Int))), some (.fz (.int p)), some (.fz (.str [])), none, none, none] = .next (EI s3 (m : Int) p [] none none) := x_asg (ev_lit _ _) rfl
  obtain ⟨s4, ds, x5, x6, l1, l2, l3, l4, l5⟩ := id_loop hd (m := (m : Int)) (p := p) m 0 _ s3 [] none none c4 (by omega) (fun c hc => by simp at hc) rfl (by omega) (fun e => by simp at e)
  rw [← List.range_eq_range'] at l1
  have hr := rng1_nat m (by omega)
  have r5 : mFor (tName 5) (iArgs rng1 (mCons (mVar 1) mNil)) (idB G) (EI s3 (m : Int) p [] none none) = .next (EI s4 (m : Int) p ds x5 x6) := by
    refine x_for (E1 := EI s3 (m : Int) p [] none none) ?_ l1
    rw [ev_args, ev_cons, ev_var (d := .int (m : Int)) rfl, bind_ok', ev_nil, bind_ok', bind_ok', hr]
  have hne : ds ≠ [] := fun e => by subst e; simp at l3; omega
  have hCn : Cn ds := ⟨l2, hne, fun e => by
    have h1 := l4 e
    have : ds.length = 1 := by omega
    obtain ⟨c, rfl⟩ := List.length_eq_one_iff.mp this
    simpa using e⟩
  have hlen : ds.length ≤ 200 := by omega
  have hgt := x_asB (x_p2 (E := EI s4 (m : Int) p ds x5 x6) (m1 := mVar 4) (m2 := mLit (.int 0)) (ev_var rfl) (ev_lit _ _) (v_gt ((dv ds : Nat) : Int) 0))
  have fin : ∀ (s5 : O), mRet (mPrim pTup (mCons (mVar 4) (mCons (mVar 3) mNil))) (EI s5 (m : Int) p ds x5 x6) = .ret (.fz (.tup [.int ((dv ds : Nat) : Int), .str ds])) (EI s5 (m : Int) p ds x5 x6) := fun s5 => by
    refine x_ret (x_p2 (ev_var rfl) (ev_var rfl) ?_)
    rw [v_tup]
    refine (if_pos z2).trans ?_
    simp only [toDs_cons, toDs_nil, toD_fz]
  by_cases hp : 0 < dv ds
  · rw [decide_eq_true (show (0 : Int) < ((dv ds : Nat) : Int) by omega)] at hgt
    obtain ⟨n3, s5, d1, d2, d3, d4⟩ := hd _ s4 l5 (by omega) 3 (by omega) (by omega)
    have he := x_asB (x_p2 (E := EI s4 (m : Int) p ds x5 x6) (E1 := EI s5 (m : Int) p ds x5 x6) (m1 := mCallS (G 7) 0 (mCons (mLit (.int 3)) mNil)) (m2 := mLit (.int 0)) (x_draw rfl d1) (ev_lit _ _) (v_eqI n3 0))
    have hc := x_and (b := mAsB (mPrim (g2 (qEq false)) (mCons (mCallS (G 7) 0 (mCons (mLit (.int 3)) mNil)) (mCons (mLit (.int 0)) mNil)))) hgt (fun _ => he) (fun z => Bool.noConfusion z)
    rw [Bool.true_and] at hc
    by_cases h3 : n3 = 0
    · rw [decide_eq_true h3] at hc
      have va := v_addS (s := [45]) (t := ds) (by simp; omega)
      refine ⟨-((dv ds : Nat) : Int), 45 :: ds, s5, ?_, ⟨ds, hCn, hlen, .inr ⟨hp, rfl, rfl⟩⟩, d4.mono (by omega)⟩
      refine fn_retS (x_seq r1 (x_seq r2 (x_seq r3 (x_seq r4 (x_seq r5 (x_seqR (x_ifT hc (x_ret (x_p2 (x_p1 (ev_var rfl) (v_neg _)) (x_p2 (ev_lit _ _) (ev_var rfl) va) ?_))))))))) 
      rw [v_tup]
      refine (if_pos z2).trans ?_
      simp only [toDs_cons, toDs_nil, toD_fz]
      rfl
    · rw [decide_eq_false h3] at hc
      refine ⟨((dv ds : Nat) : Int), ds, s5, ?_, ⟨ds, hCn, hlen, .inl ⟨rfl, rfl⟩⟩, d4.mono (by omega)⟩
      exact fn_retS (x_seq r1 (x_seq r2 (x_seq r3 (x_seq r4 (x_seq r5 (x_seq (x_ifF hc rfl) (fin s5)))))))
  · rw [decide_eq_false (show ¬ (0 : Int) < ((dv ds : Nat) : Int) by omega)] at hgt
    have hc := x_and (E2 := EI s4 (m : Int) p ds x5 x6) (y := false) (b := mAsB (mPrim (g2 (qEq false)) (mCons (mCallS (G 7) 0 (mCons (mLit (.int 3)) mNil)) (mCons (mLit (.int 0)) mNil)))) hgt (fun z => Bool.noConfusion z) (fun _ => rfl)
    refine ⟨((dv ds : Nat) : Int), ds, s4, ?_, ⟨ds, hCn, hlen, .inl ⟨rfl, rfl⟩⟩, l5.mono (by omega)⟩
    exact fn_retS (x_seq r1 (x_seq r2 (x_seq r3 (x_seq r4 (x_seq r5 (x_seq (x_ifF hc rfl) (fin s4)))))))
end K33

set_option Elab.async false
set_option linter.all false
set_option maxRecDepth 100000
set_option maxHeartbeats 4000000
namespace K33
open Mn PySem PySem.Spec PyProof.Rows L2
open TL (numL joinL)
open PySem.NumText renaming AllDigits → AD, digitsVal → dv
theorem one_str {dr : List O → Cr} (hd : Draws dr) {C : Nat} {s : O} {q : T} (h : St C s) (hC : C < 2 ^ 60) (h0 : q ≠ []) (hl : q.length < 1000000) :
    ∃ c s', fnOf true 0 (oneB dr) [s, .fz (.str q)] = .ok (.fz (.str [c])) (some s') ∧ c ∈ q ∧ St (C + 1) s' := by
  have hp : 0 < q.length := List.length_pos_iff.mpr h0
  obtain ⟨n, s', h1, h2, h3, h4⟩ := hd C s h hC q.length (by omega) (by omega)
  obtain ⟨y, rfl⟩ : ∃ y : Nat, n = (y : Int) := ⟨n.toNat, by omega⟩
  have hy : y < q.length := by omega
  refine ⟨q[y], s', ?_, List.getElem_mem _, h4⟩
  have hc : mCallS dr 0 (mCons (mRd1 dLen 1) mNil) [some s, some (.fz (.str q))] = .ok (.fz (.int (y : Int))) [some s', some (.fz (.str q))] := by
    rw [ev_callS (s := s) _ _ rfl, ev_cons, len_str (i := 1) (s := q) rfl (by omega), bind_ok', ev_nil, bind_ok', bind_ok']
    simp only [List.getElem?_cons_zero, h1]
    rfl
  exact fn_retS (E := [some (.fz (.str q))]) (x_ret (idx_str rfl hc rfl (List.getElem?_eq_getElem hy) (by omega)))
def SGN : T := [32, 33, 35, 36, 38, 40, 41, 42, 43, 44, 45, 46, 47, 48, 49, 57, 58, 59, 60, 61, 62, 63, 64, 65, 90, 91, 93, 94, 95, 97, 122, 123, 124, 125, 126]
theorem SGN_plain : ∀ c ∈ SGN, plC c = true := by decide
/-- draws a text -/
def Txts (φ : List O → Cr) : Prop := ∀ (C : Nat) (s : O), St C s → C + 1000 < 2 ^ 60 → ∃ x t s', φ [s] = .ok (.fz (.tup [.str x, .str t])) (some s') ∧ LfS x t ∧ St (C + 300) s'
theorem ac_strs : ∀ os : List O, (∀ o ∈ os, ∃ c, o = .fz (.str [c]) ∧ plC c = true) → ∃ cs : T, os = (cs.map fun c => O.fz (.str [c])) ∧ cs.all plC = true
  | [], _ => ⟨[], rfl, rfl⟩
  | o :: os, h => by
    obtain ⟨c, rfl, hc⟩ := h o (by simp)
    obtain ⟨cs, e, hcs⟩ := ac_strs os fun o ho => h o (by simp [ho])
    exact ⟨c :: cs, by simp [e], by simp [hc, hcs]⟩
theorem rng1_int {n : Int} (h0 : 0 ≤ n) (h1 : n < 1000) : rng1 [.fz (.int n)] = some ((List.range n.toNat).map fun (i : Nat) => Mn.D.int (i : Int)) := by
  obtain ⟨y, rfl⟩ : ∃ y : Nat, n = (y : Int) := ⟨n.toNat, by omega⟩
  rw [Int.toNat_natCast]
  exact rng1_nat y (by omega)
theorem flat_one (cs : T) : (cs.map fun c => [c]).flatten = cs := by
  induction cs with
  | nil => rfl
  | cons c cs ih => simp [ih]
theorem text_drawn {G : Nat → List O → Cr} (hd : Draws (G 7)) (h8 : G 8 = fnOf true 0 (oneB (G 7))) : Txts (fnOf true 3 (B12 G)) := by
  intro C s h hC
  obtain ⟨n, s1, a1, a2, a3, a4⟩ := hd C s h (by omega) 6 (by omega) (by omega)
  have r1 : mAsg (tName 1) (mLit (.str SGN)) [some s, none, none, none] = .next [some s, some (.fz (.str SGN)), none, none] := x_asg (ev_lit _ _) rfl
  have hi : iArgs rng1 (mCons (mCallS (G 7) 0 (mCons (mLit (.int 6)) mNil)) mNil) [some s, some (.fz (.str SGN)), none, none] = .ok ((List.range n.toNat).map fun (i : Nat) => Mn.D.int (i : Int)) [some s1, some (.fz (.str SGN)), none, none] := by
    rw [ev_args, ev_cons, x_draw rfl a1, bind_ok', ev_nil, bind_ok', bind_ok', rng1_int a2 (by omega)]
    rfl
  obtain ⟨rows, E', c1, c2, c3, s2, rfl, c4⟩ := cIter_st (own := [3]) (t := tName 3) (c := mYes) (m := mCallS (G 8) 0 (mCons (mVar 1) mNil)) 10 (fun j E => ∃ s', E = [some s', some (.fz (.str SGN)), none, none] ∧ St (C + 1 + j) s') (fun _ o => ∃ c, o = .fz (.str [c]) ∧ plC c = true)
    (fun j E ⟨s', e, _⟩ => by subst e; rfl) ((List.range n.toNat).map fun (i : Nat) => Mn.D.int (i : Int)) [] 0 [some s1, some (.fz (.str SGN)), none, none] ⟨s1, rfl, a4⟩ (by simp; omega) (fun d _ j E hj ⟨s', e, q⟩ => by
      subst e
      obtain ⟨c, s3, o1, o2, o3⟩ := one_str (q := SGN) hd q (by omega) (by decide) (by decide)
      have hcall : mCallS (G 8) 0 (mCons (mVar 1) mNil) [some s', some (.fz (.str SGN)), none, some (.fz d)] = .ok (.fz (.str [c])) [some s3, some (.fz (.str SGN)), none, some (.fz d)] := by
        rw [ev_callS (s := s') _ _ rfl, ev_cons, ev_var (d := .str SGN) rfl, bind_ok', ev_nil, bind_ok', bind_ok', h8]
        simp only [List.getElem?_cons_zero, o1]
        rfl
      exact ⟨_, rfl, true, _, rfl, fun z => Bool.noConfusion z, fun _ => ⟨_, _, hcall, ⟨c, rfl, SGN_plain c o2⟩, s3, rfl, o3.mono (by omega)⟩⟩) (by simp only [List.length_nil, List.length_map, List.length_range, Nat.zero_add]; exact szS _ (by omega))
  simp only [List.length_map, List.length_range] at c4
  obtain ⟨cs, k1, k2⟩ := ac_strs (rows.map (·.2)) fun o ho => by
    obtain ⟨p, hp, rfl⟩ := List.mem_map.mp ho
    exact c3 p hp
  have hlen : cs.length ≤ 5 := by
    have e1 := congrArg List.length k1
    have e2 := c2.length_le
    simp at e1 e2
    omega
  have hcomp : mComp [3] (tName 3) (iArgs rng1 (mCons (mCallS (G 7) 0 (mCons (mLit (.int 6)) mNil)) mNil)) mYes (mCallS (G 8) 0 (mCons (mVar 1) mNil)) [some s, some (.fz (.str SGN)), none, none] = .ok (.lst (cs.map fun c => .fz (.str [c]))) [some s2, some (.fz (.str SGN)), none, none] := by
    rw [ev_comp, hi, bind_ok']
    rw [show wipeE [some s1, some (.fz (.str SGN)), none, none] [3] = [some s1, some (.fz (.str SGN)), none, none] from rfl, c1, only_ok', List.nil_append, k1]
  have hj := v_join (sep := []) (o := .lst (cs.map fun c => .fz (.str [c]))) (ys := cs.map fun c => [c]) (by rw [toD_lst, toDs_map' (fun c : Nat => Mn.D.str [c])]; simp [itemsOf, List.map_map, Function.comp_def]) (by
    have := sum_len (cs := cs.map fun c => [c]) (B := 1) (fun t ht => by
      obtain ⟨c, _, rfl⟩ := List.mem_map.mp ht
      simp)
    simp at this ⊢
    omega)
  rw [joinL_nil, flat_one] at hj
  have r2 : mAsg (tName 2) (mStrM tJoin (mLit (.str [])) (mCons (mComp [3] (tName 3) (iArgs rng1 (mCons (mCallS (G 7) 0 (mCons (mLit (.int 6)) mNil)) mNil)) mYes (mCallS (G 8) 0 (mCons (mVar 1) mNil))) mNil)) [some s, some (.fz (.str SGN)), none, none] = .next [some s2, some (.fz (.str SGN)), some (.fz (.str cs)), none] := by
    refine x_asg (o := .fz (.str cs)) (E1 := [some s2, some (.fz (.str SGN)), none, none]) ?_ rfl
    rw [ev_strM, ev_lit, bind_ok']
    simp only [str_fz]
    rw [ev_cons, hcomp, bind_ok', ev_nil, bind_ok', bind_ok']
    simp only [hj]
  have v1 := v_addS' (s := [39]) (t := cs) (by simp; omega)
  have v2 := v_addS' (s := [39] ++ cs) (t := [39]) (by simp; omega)
  refine ⟨cs, 39 :: (cs ++ [39]), s2, ?_, ⟨k2, by omega, rfl⟩, c4.mono (by omega)⟩
  refine fn_retS (E := [some (.fz (.str SGN)), some (.fz (.str cs)), none]) (x_seq r1 (x_seq r2 (x_ret (x_p2 (ev_var rfl) (x_p2 (x_p2 (ev_lit _ _) (ev_var rfl) v1) (ev_lit _ _) v2) ?_))))
  rw [v_tup]
  refine (if_pos z2).trans ?_
  simp only [toDs_cons, toDs_nil, toD_fz]
  rfl
/-! a datum -/
def BB : Nat → Nat
  | 0 => 400
  | k + 1 => 4 * BB k + 420
theorem BB_ge : ∀ k, 400 ≤ BB k
  | 0 => Nat.le_refl _
  | k + 1 => by unfold BB; omega
def Dats (k : Nat) (φ : List O → Cr) : Prop := ∀ (C : Nat) (s : O), St C s → C + BB k + 1000 < 2 ^ 60 → ∃ d t s', φ [s, .fz (.int (k : Int))] = .ok (.fz (.tup [d, .str t])) (some s') ∧ Dat k d t ∧ St (C + BB k) s'
theorem dat_leaf {k : Nat} {d : Mn.D} {t : T} (h : Leaf d t) : Dat k d t := by
  cases k with
  | zero => exact h
  | succ k => exact .inl h
theorem ac_dats {k : Nat} : ∀ os : List O, (∀ o ∈ os, ∃ d t, o = .fz (.tup [d, .str t]) ∧ Dat k d t) → ∃ rs : List (Mn.D × T), os = (rs.map fun p => O.fz (.tup [p.1, .str p.2])) ∧ ∀ p ∈ rs, Dat k p.1 p.2
  | [], _ => ⟨[], rfl, by simp⟩
  | o :: os, h => by
    obtain ⟨d, t, rfl, hd⟩ := h o (by simp)
    obtain ⟨rs, e, hrs⟩ := ac_dats os fun o ho => h o (by simp [ho])
    refine ⟨(d, t) :: rs, by simp [e], fun p hp => ?_⟩
    rcases List.mem_cons.mp hp with e | e
    · subst e; exact hd
    · exact hrs p e
theorem x_call0 {φ : List O → Cr} {E : En} {i : Nat} {s s' o : O} (h : E[i]? = some (some s)) (hg : φ [s] = .ok o (some s')) : mCallS φ i mNil E = .ok o (E.set i (some s')) := by
  rw [ev_callS _ _ h, ev_nil, bind_ok']
  simp only [h, hg]
abbrev EDt (s : O) (k : Nat) (p : Int) (r : Option O) : En := [some s, some (.fz (.int (k : Int))), some (.fz (.int p)), r, none, none, none]
theorem datum_step {G : Nat → List O → Cr} (hd : Draws (G 7)) (hi : Ints (G 11)) (ht : Txts (G 12)) (k : Nat) (hk : LB k ≤ 15000000) (ih : ∀ k', k = k' + 1 → Dats k' (G 13)) : Dats k (fnOf true 5 (B13 G)) := by
  intro C s h hC
  have hBB := BB_ge k
  obtain ⟨p, s1, a1, a2, a3, a4⟩ := hd C s h (by omega) 6 (by omega) (by omega)
  have r1 : mAsg (tName 2) (mCallS (G 7) 0 (mCons (mLit (.int 6)) mNil)) [some s, some (.fz (.int (k : Int))), none, none, none, none, none] = .next (EDt s1 k p none) := x_asg (x_draw rfl a1) rfl
  have c1 := x_asB (x_p2 (E := EDt s1 k p none) (m1 := mVar 1) (m2 := mLit (.int 0)) (ev_var rfl) (ev_lit _ _) (v_eqI (k : Int) 0))
  have c2 := x_asB (x_p2 (E := EDt s1 k p none) (m1 := mVar 2) (m2 := mLit (.int 0)) (ev_var rfl) (ev_lit _ _) (v_eqI p 0))
  have c3 := x_asB (x_p2 (E := EDt s1 k p none) (m1 := mVar 2) (m2 := mLit (.int 1)) (ev_var rfl) (ev_lit _ _) (v_eqI p 1))
  have c := x_or c1 (fun _ => c2) (fun _ => rfl)
  by_cases hz : (decide ((k : Int) = 0) || decide (p = 0)) = true
  · rw [hz] at c
    obtain ⟨i, t, s2, i1, i2, i3⟩ := hi _ s1 a4 (by omega)
    refine ⟨.int i, t, s2, ?_, dat_leaf (.inl ⟨i, rfl, i2⟩), i3.mono (by omega)⟩
    exact fn_retS (x_seq r1 (x_seqR (x_ifT c (x_ret (x_call0 rfl i1)))))
  · have hz : (decide ((k : Int) = 0) || decide (p = 0)) = false := by simpa using hz
    rw [hz] at c
    by_cases h1 : p = 1
    · rw [decide_eq_true h1] at c3
      obtain ⟨x, t, s2, i1, i2, i3⟩ := ht _ s1 a4 (by omega)
      refine ⟨.str x, t, s2, ?_, dat_leaf (.inr ⟨x, rfl, i2⟩), i3.mono (by omega)⟩
      exact fn_retS (x_seq r1 (x_seq (x_ifF c rfl) (x_seqR (x_ifT c3 (x_ret (x_call0 rfl i1))))))
    · rw [decide_eq_false h1] at c3
      obtain ⟨k, rfl⟩ : ∃ k', k = k' + 1 := by
        cases k with
        | zero => simp at hz
        | succ k => exact ⟨k, rfl⟩
      have ih := ih k rfl
      have hB : BB (k + 1) = 4 * BB k + 420 := rfl
      have hBk := BB_ge k
      obtain ⟨n, s2, b1, b2, b3, b4⟩ := hd _ s1 a4 (by omega) 5 (by omega) (by omega)
      have hit : iArgs rng1 (mCons (mCallS (G 7) 0 (mCons (mLit (.int 5)) mNil)) mNil) (EDt s1 (k + 1) p none) = .ok ((List.range n.toNat).map fun (i : Nat) => Mn.D.int (i : Int)) (EDt s2 (k + 1) p none) := by
        rw [ev_args, ev_cons, x_draw rfl b1, bind_ok', ev_nil, bind_ok', bind_ok', rng1_int b2 (by omega)]
        rfl
      obtain ⟨rows, E', q1, q2, q3, s3, rfl, q4⟩ := cIter_st (own := [4]) (t := tName 4) (c := mYes) (m := mCallS (G 13) 0 (mCons (mPrim pSub (mCons (mVar 1) (mCons (mLit (.int 1)) mNil))) mNil)) 4 (fun j E => ∃ s', E = EDt s' (k + 1) p none ∧ St (C + 10 + j * BB k) s') (fun _ o => ∃ d t, o = .fz (.tup [d, .str t]) ∧ Dat k d t)
        (fun j E ⟨s', e, _⟩ => by subst e; rfl) ((List.range n.toNat).map fun (i : Nat) => Mn.D.int (i : Int)) [] 0 (EDt s2 (k + 1) p none) ⟨s2, rfl, b4.mono (by omega)⟩ (by simp; omega) (fun d _ j E hj ⟨s', e, q⟩ => by
          subst e
          have hjB : j * BB k ≤ 3 * BB k := Nat.mul_le_mul (by omega) (Nat.le_refl _)
          obtain ⟨d', t', s4, o1, o2, o3⟩ := ih _ s' q (by omega)
          have hs : mPrim pSub (mCons (mVar 1) (mCons (mLit (.int 1)) mNil)) [some s', some (.fz (.int ((k + 1 : Nat) : Int))), some (.fz (.int p)), none, some (.fz d), none, none] = .ok (.fz (.int (k : Int))) [some s', some (.fz (.int ((k + 1 : Nat) : Int))), some (.fz (.int p)), none, some (.fz d), none, none] := by
            refine x_p2 (ev_var rfl) (ev_lit _ _) ?_
            rw [v_subI]
            congr 3
            omega
          have hcall : mCallS (G 13) 0 (mCons (mPrim pSub (mCons (mVar 1) (mCons (mLit (.int 1)) mNil))) mNil) [some s', some (.fz (.int ((k + 1 : Nat) : Int))), some (.fz (.int p)), none, some (.fz d), none, none] = .ok (.fz (.tup [d', .str t'])) [some s4, some (.fz (.int ((k + 1 : Nat) : Int))), some (.fz (.int p)), none, some (.fz d), none, none] := by
            rw [ev_callS (s := s') _ _ rfl, ev_cons, hs, bind_ok', ev_nil, bind_ok', bind_ok']
            simp only [List.getElem?_cons_zero, o1]
            rfl
          refine ⟨_, rfl, true, _, rfl, fun z => Bool.noConfusion z, fun _ => ⟨_, _, hcall, ⟨d', t', rfl, o2⟩, s4, rfl, o3.mono ?_⟩⟩
          rw [Nat.add_mul, Nat.one_mul]
          omega) (by simp only [List.length_nil, List.length_map, List.length_range, Nat.zero_add]; exact szS _ (by omega))
      simp only [List.length_map, List.length_range] at q4
      obtain ⟨rs, k1, k2⟩ := ac_dats (rows.map (·.2)) fun o ho => by
        obtain ⟨p, hp, rfl⟩ := List.mem_map.mp ho
        exact q3 p hp
      have hlen : rs.length ≤ 4 := by
        have e1 := congrArg List.length k1
        have e2 := q2.length_le
        simp at e1 e2
        omega
      have hcomp : mComp [4] (tName 4) (iArgs rng1 (mCons (mCallS (G 7) 0 (mCons (mLit (.int 5)) mNil)) mNil)) mYes (mCallS (G 13) 0 (mCons (mPrim pSub (mCons (mVar 1) (mCons (mLit (.int 1)) mNil))) mNil)) (EDt s1 (k + 1) p none) = .ok (.lst (rs.map fun p => O.fz (.tup [p.1, .str p.2]))) (EDt s3 (k + 1) p none) := by
        rw [ev_comp, hit, bind_ok']
        rw [show wipeE (EDt s2 (k + 1) p none) [4] = EDt s2 (k + 1) p none from rfl, q1, only_ok', List.nil_append, k1]
      have r3 : mAsg (tName 3) (mComp [4] (tName 4) (iArgs rng1 (mCons (mCallS (G 7) 0 (mCons (mLit (.int 5)) mNil)) mNil)) mYes (mCallS (G 13) 0 (mCons (mPrim pSub (mCons (mVar 1) (mCons (mLit (.int 1)) mNil))) mNil))) (EDt s1 (k + 1) p none) = .next (EDt s3 (k + 1) p (some (.lst (rs.map fun p => O.fz (.tup [p.1, .str p.2]))))) := x_asg hcomp rfl
      generalize hE : EDt s3 (k + 1) p (some (.fz (.lst (rs.map fun p => Mn.D.tup [p.1, .str p.2])))) = EE at *
      have hv : mVar 3 (EDt s3 (k + 1) p (some (.lst (rs.map fun p => O.fz (.tup [p.1, .str p.2]))))) = .ok (.fz (.lst (rs.map fun p => Mn.D.tup [p.1, .str p.2]))) EE := by
        rw [ev_varL (xs := rs.map fun p => O.fz (.tup [p.1, .str p.2])) rfl, toDs_map' (fun p : Mn.D × T => Mn.D.tup [p.1, .str p.2]), ← hE]
        rfl
      have hv2 : mVar 3 EE = .ok (.fz (.lst (rs.map fun p => Mn.D.tup [p.1, .str p.2]))) EE := by
        rw [← hE]
        exact ev_var rfl
      have m1 := comp_map (own := [5, 6]) (t := tTup [(tName 5), (tName 6)]) (mi := iVal (mVar 3)) (m := mVar 5) (E := EDt s3 (k + 1) p (some (.lst (rs.map fun p => O.fz (.tup [p.1, .str p.2]))))) (E0 := EE) (E1 := EE) (xs := rs) (fun p => Mn.D.tup [p.1, .str p.2]) (fun p => .fz p.1) (x_val hv (by rw [toD_fz, it_lst])) (by rw [← hE]; rfl) (fun p hp => by
        rw [← hE]
        exact ⟨_, _, rfl, ev_var rfl, rfl⟩) (by omega)
      have m2 := comp_map (own := [5, 6]) (t := tTup [(tName 5), (tName 6)]) (mi := iVal (mVar 3)) (m := mVar 6) (E := EE) (E0 := EE) (E1 := EE) (xs := rs) (fun p => Mn.D.tup [p.1, .str p.2]) (fun p => .fz (.str p.2)) (x_val hv2 (by rw [toD_fz, it_lst])) (by rw [← hE]; rfl) (fun p hp => by
        rw [← hE]
        exact ⟨_, _, rfl, ev_var rfl, rfl⟩) (by omega)
      have ht1 := tup_of (.lst (rs.map fun p => O.fz p.1)) (rs.map (·.1)) (by simp; omega) (.inl (by rw [toD_lst, toDs_map' (fun p : Mn.D × T => p.1)]))
      have hjl := joinL_le [44, 32] (rs.map (·.2))
      have hsl := sum_len (cs := rs.map (·.2)) (B := LB k) (fun t ht => by
        obtain ⟨p, hp, rfl⟩ := List.mem_map.mp ht
        exact dat_len k (k2 p hp))
      have hLB : LB (k + 1) = 4 * LB k + 12 := rfl
      have hmul := Nat.mul_le_mul hlen (Nat.le_refl (LB k))
      simp only [List.length_map] at hjl hsl
      have hj := v_join (sep := [44, 32]) (o := .lst (rs.map fun p => O.fz (.str p.2))) (ys := rs.map (·.2)) (by rw [toD_lst, toDs_map' (fun p : Mn.D × T => Mn.D.str p.2)]; simp [itemsOf, List.map_map, Function.comp_def]) (by simp only [List.length_map, List.length_cons, List.length_nil]; omega)
      have hm : mStrM tJoin (mLit (.str [44, 32])) (mCons (mComp [5, 6] (tTup [(tName 5), (tName 6)]) (iVal (mVar 3)) mYes (mVar 6)) mNil) EE = .ok (.fz (.str (joinL [44, 32] (rs.map (·.2))))) EE := by
        rw [ev_strM, ev_lit, bind_ok']
        simp only [str_fz]
        rw [ev_cons, m2, bind_ok', ev_nil, bind_ok', bind_ok']
        simp only [hj]
      simp only [List.length_cons, List.length_nil] at hjl
      have v1 := v_addS' (s := [40]) (t := joinL [44, 32] (rs.map (·.2))) (by simp only [List.length_cons, List.length_nil]; omega)
      have v2 := v_addS' (s := [40] ++ joinL [44, 32] (rs.map (·.2))) (t := [41]) (by simp only [List.length_append, List.length_cons, List.length_nil]; omega)
      refine ⟨.tup (rs.map (·.1)), 40 :: (joinL [44, 32] (rs.map (·.2)) ++ [41]), s3, ?_, .inr ⟨rs, hlen, k2, rfl, rfl⟩, q4.mono ?_⟩
      · have hret : mRet (mPrim pTup (mCons (mPrim pTuple (mCons (mComp [5, 6] (tTup [(tName 5), (tName 6)]) (iVal (mVar 3)) mYes (mVar 5)) mNil)) (mCons (mPrim pAdd (mCons (mPrim pAdd (mCons (mLit (.str [40])) (mCons (mStrM tJoin (mLit (.str [44, 32])) (mCons (mComp [5, 6] (tTup [(tName 5), (tName 6)]) (iVal (mVar 3)) mYes (mVar 6)) mNil)) mNil))) (mCons (mLit (.str [41])) mNil))) mNil)))
            (EDt s3 (k + 1) p (some (.lst (rs.map fun p => O.fz (.tup [p.1, .str p.2]))))) = .ret (.fz (.tup [.tup (rs.map (·.1)), .str (40 :: (joinL [44, 32] (rs.map (·.2)) ++ [41]))])) EE := by
          refine x_ret (x_p2 (x_p1 m1 ht1) (x_p2 (x_p2 (ev_lit _ _) hm v1) (ev_lit _ _) v2) ?_)
          rw [v_tup]
          refine (if_pos z2).trans ?_
          simp only [toDs_cons, toDs_nil, toD_fz]
          rfl
        rw [← hE] at hret
        exact fn_retS (x_seq r1 (x_seq (x_ifF c rfl) (x_seq (x_ifF c3 rfl) (x_seq r3 hret))))
      · have : (0 + n.toNat) * BB k ≤ 4 * BB k := Nat.mul_le_mul (by omega) (Nat.le_refl _)
        omega
end K33

set_option Elab.async false
set_option linter.all false
set_option maxRecDepth 100000
set_option maxHeartbeats 4000000
namespace K33
open Mn PySem PySem.Spec PyProof.Rows L2
open TL (numL joinL)
open PySem.NumText renaming AllDigits → AD, digitsVal → dv
theorem x_nil {E : En} : mNil E = .ok [] E := rfl
theorem x_cons {m : M O} {ms : M (List O)} {E E1 E2 : En} {o : O} {os : List O} (h1 : m E = .ok o E1) (h2 : ms E1 = .ok os E2) : mCons m ms E = .ok (o :: os) E2 := by
  rw [ev_cons, h1, bind_ok', h2, bind_ok']
theorem x_p {g : List O → Option O} {ms : M (List O)} {E E1 : En} {os : List O} {r : O} (h : ms E = .ok os E1) (hg : g os = some r) : mPrim g ms E = .ok r E1 := by
  rw [ev_prim, h, bind_ok']
  simp only [hg]
theorem x_lst {ms : M (List O)} {E E1 : En} {os : List O} (h : ms E = .ok os E1) (hl : os.length ≤ 1000) : mPrim pLst ms E = .ok (.lst os) E1 := x_p h (by
  have := szt os.length (by omega)
  simp [pLst, this])
/-! texts that are no integers -/
theorem okI_chars {y : T} (h : okI y = true) : ∀ c ∈ y, isS c = true := by
  unfold okI at h
  rw [Bool.and_eq_true] at h
  have h2 := all_AD.mp h.2
  unfold bodyI at h2
  intro c hc
  by_cases hy : y.take 1 = [45]
  · rw [if_pos hy] at h2
    have e := List.take_append_drop 1 y
    rw [hy] at e
    rw [← e] at hc
    rcases List.mem_append.mp hc with q | q
    · simp at q; subst q; rfl
    · exact isS_of (h2 c q)
  · rw [if_neg hy] at h2
    exact isS_of (h2 c hc)
theorem not_ok {y : T} {c : Nat} (hc : c ∈ y) (h : isS c = false) : okI y = false := by
  cases e : okI y with
  | false => rfl
  | true => rw [okI_chars e c hc] at h; cases h
theorem zero_bad {t : T} (h : t ≠ []) : okI ([48] ++ t) = false := by
  have hb : bodyI ([48] ++ t) = [48] ++ t := by
    unfold bodyI
    rw [if_neg]
    simp
  have : badC ([48] ++ t) = true := by
    unfold badC
    rw [hb]
    simp [h]
  rw [okI_eq, this]
  rfl
def BadI (y : T) : Prop := okI y = false ∧ y.length ≤ 100000
/-- the list of bad integers -/
theorem bad_ints {G : Nat → List O → Cr} {i : Int} {t : T} (h : LfI i t) : ∃ (o : O) (ys : List T), fnOf false 1 (B15 G) [.fz (.str t)] = .ok o none ∧ Lsts o (ys.map Mn.D.str) ∧ ys ≠ [] ∧ ys.length < 100 ∧ ∀ y ∈ ys, BadI y := by
  obtain ⟨_, _, _, hl, hne⟩ := lfi_ok h
  generalize hy1 : ([[], [45], [45, 48], ([43] ++ t), ([32] ++ t), (t ++ [32]), [48, 48], ([48] ++ t), [45, 45, 49], [49, 45], (t ++ [120]), [97], [40, 41]] : List T) = ys1
  generalize hy2 : ([(t ++ [46, 48]), [49, 32, 50], [49, 44, 50], [39, 49, 39], [40, 49, 41], [48, 120, 49], [49, 95, 48]] : List T) = ys2
  have h1 : (mCons (mLit (.str [])) (mCons (mLit (.str [45])) (mCons (mLit (.str [45, 48])) (mCons (mPrim pAdd (mCons (mLit (.str [43])) (mCons (mVar 0) mNil))) (mCons (mPrim pAdd (mCons (mLit (.str [32])) (mCons (mVar 0) mNil))) (mCons (mPrim pAdd (mCons (mVar 0) (mCons (mLit (.str [32])) mNil))) (mCons (mLit (.str [48, 48])) (mCons (mPrim pAdd (mCons (mLit (.str [48])) (mCons (mVar 0) mNil))) (mCons (mLit (.str [45, 45, 49])) (mCons (mLit (.str [49, 45])) (mCons (mPrim pAdd (mCons (mVar 0) (mCons (mLit (.str [120])) mNil))) (mCons (mLit (.str [97])) (mCons (mLit (.str [40, 41])) mNil))))))))))))) [some (.fz (.str t)), none] = .ok (ys1.map fun y => O.fz (.str y)) [some (.fz (.str t)), none] := by
    subst hy1
    exact (x_cons (ev_lit _ _) (x_cons (ev_lit _ _) (x_cons (ev_lit _ _) (x_cons (x_p2 (ev_lit _ _) (ev_var (d := .str t) rfl) (v_addS' (by simp <;> omega))) (x_cons (x_p2 (ev_lit _ _) (ev_var (d := .str t) rfl) (v_addS' (by simp <;> omega))) (x_cons (x_p2 (ev_var (d := .str t) rfl) (ev_lit _ _) (v_addS' (by simp <;> omega))) (x_cons (ev_lit _ _) (x_cons (x_p2 (ev_lit _ _) (ev_var (d := .str t) rfl) (v_addS' (by simp <;> omega))) (x_cons (ev_lit _ _) (x_cons (ev_lit _ _) (x_cons (x_p2 (ev_var (d := .str t) rfl) (ev_lit _ _) (v_addS' (by simp <;> omega))) (x_cons (ev_lit _ _) (x_cons (ev_lit _ _) x_nil)))))))))))))
  have h2 : (mCons (mPrim pAdd (mCons (mVar 0) (mCons (mLit (.str [46, 48])) mNil))) (mCons (mLit (.str [49, 32, 50])) (mCons (mLit (.str [49, 44, 50])) (mCons (mLit (.str [39, 49, 39])) (mCons (mLit (.str [40, 49, 41])) (mCons (mLit (.str [48, 120, 49])) (mCons (mLit (.str [49, 95, 48])) mNil))))))) [some (.fz (.str t)), some (.fz (.lst (ys1.map Mn.D.str)))] = .ok (ys2.map fun y => O.fz (.str y)) [some (.fz (.str t)), some (.fz (.lst (ys1.map Mn.D.str)))] := by
    subst hy2
    exact (x_cons (x_p2 (ev_var (d := .str t) rfl) (ev_lit _ _) (v_addS' (by simp <;> omega))) (x_cons (ev_lit _ _) (x_cons (ev_lit _ _) (x_cons (ev_lit _ _) (x_cons (ev_lit _ _) (x_cons (ev_lit _ _) (x_cons (ev_lit _ _) x_nil)))))))
  have l1 : ys1.length = 13 := by subst hy1; rfl
  have l2 : ys2.length = 7 := by subst hy2; rfl
  have b1 := x_lst h1 (by simp; omega)
  have b2 := x_lst h2 (by simp; omega)
  have hv : mVar 1 [some (.fz (.str t)), some (.lst (ys1.map fun y => O.fz (.str y)))] = .ok (.fz (.lst (ys1.map Mn.D.str))) [some (.fz (.str t)), some (.fz (.lst (ys1.map Mn.D.str)))] := by
    rw [ev_varL (xs := ys1.map fun y => O.fz (.str y)) rfl, toDs_map' (fun y : T => Mn.D.str y)]
    rfl
  have ha := addL (a := .fz (.lst (ys1.map Mn.D.str))) (b := .lst (ys2.map fun y => O.fz (.str y))) (s := ys1.map Mn.D.str) (t := ys2.map Mn.D.str) (toD_fz _) (by rw [toD_lst, toDs_map' (fun y : T => Mn.D.str y)]) (by simp; omega)
  refine ⟨_, ys1 ++ ys2, fn_ret (x_seq (x_asg b1 rfl) (x_ret (x_p2 hv b2 ha))), .inr (by simp only [List.map_append]), fun e => ?_, by simp; omega, fun y hy => ?_⟩
  · have := congrArg List.length e
    simp only [List.length_append, l1, List.length_nil] at this
    omega
  · have hlong : ∀ y ∈ ys1 ++ ys2, y.length ≤ 100000 := by
      subst hy1 hy2
      intro y hy
      simp only [List.cons_append, List.nil_append, List.mem_cons, List.not_mem_nil, or_false] at hy
      rcases hy with rfl | rfl | rfl | rfl | rfl | rfl | rfl | rfl | rfl | rfl | rfl | rfl | rfl | rfl | rfl | rfl | rfl | rfl | rfl | rfl <;> simp <;> omega
    refine ⟨?_, hlong y hy⟩
    subst hy1 hy2
    simp only [List.cons_append, List.nil_append, List.mem_cons, List.not_mem_nil, or_false] at hy
    rcases hy with rfl | rfl | rfl | rfl | rfl | rfl | rfl | rfl | rfl | rfl | rfl | rfl | rfl | rfl | rfl | rfl | rfl | rfl | rfl | rfl
    · decide
    · decide
    · decide
    · exact not_ok (c := 43) (by simp) (by decide)
    · exact not_ok (c := 32) (by simp) (by decide)
    · exact not_ok (c := 32) (by simp) (by decide)
    · decide
    · exact zero_bad hne
    · decide
    · decide
    · exact not_ok (c := 120) (by simp) (by decide)
    · decide
    · decide
    · exact not_ok (c := 46) (by simp) (by decide)
    · decide
    · decide
    · decide
    · decide
    · decide
    · decide
/-! texts that are no data -/
def BadD (y : T) : Prop := Rd [[]] false true y none ∧ y.length ≤ 16000000
theorem bad_data {G : Nat → List O → Cr} (hd : Draws (G 7)) {C : Nat} {s : O} {d : Mn.D} {t : T} (hs : St C s) (hC : C < 2 ^ 60) (h : Dat 6 d t) : ∃ (o s' : O) (ys : List T), fnOf true 2 (B16 G) [s, .fz (.str t)] = .ok o (some s') ∧ Lsts o (ys.map Mn.D.str) ∧ ys ≠ [] ∧ ys.length < 100 ∧ (∀ y ∈ ys, BadD y) ∧ St (C + 1) s' := by
  have hl : t.length ≤ 1000000 := Nat.le_trans (dat_len 6 h) (by decide)
  obtain ⟨n, s', a1, a2, a3, a4⟩ := hd C s hs hC ((t.length + 1 : Nat) : Int) (by omega) (by omega)
  obtain ⟨at_, rfl⟩ : ∃ y : Nat, n = (y : Int) := ⟨n.toNat, by omega⟩
  have hat : at_ ≤ t.length := by omega
  generalize hy1 : ([[], [32], [40], [41], (t ++ [32]), ([32] ++ t), (t ++ [41]), ([40] ++ t), ((t ++ [44, 32]) ++ t), [39], [39, 97], [97, 39], [122, 122]] : List T) = ys1
  generalize hy2 : ([[40, 49, 44, 50, 41], [40, 49, 44, 32, 32, 50, 41], [40, 49, 32, 44, 32, 50, 41], [40, 32, 49, 41], [40, 49, 32, 41], [40, 49, 44, 32, 41], [40, 44, 32, 49, 41], [40, 49, 44, 41], [40, 39, 97, 39, 39, 98, 39, 41], [40, 48, 49, 41], [40, 45, 48, 41]] : List T) = ys2
  generalize hy3 : ([[91, 49, 93], [40, 49, 59, 32, 50, 41], (([39, 97] ++ [10]) ++ [98, 39]), (t ++ [10]), [40, 39, 97, 41], [40, 40, 49, 44, 32, 50, 41], [40, 49, 44, 32, 50, 41, 41], (((t.take at_) ++ [10]) ++ (t.drop at_))] : List T) = ys3
  have l1 : ys1.length = 13 := by subst hy1; rfl
  have l2 : ys2.length = 11 := by subst hy2; rfl
  have l3 : ys3.length = 8 := by subst hy3; rfl
  have r1 : mAsg (tName 2) (mCallS (G 7) 0 (mCons (mPrim pAdd (mCons (mRd1 dLen 1) (mCons (mLit (.int 1)) mNil))) mNil)) [some s, some (.fz (.str t)), none, none] = .next [some s', some (.fz (.str t)), some (.fz (.int (at_ : Int))), none] := by
    refine x_asg (o := .fz (.int (at_ : Int))) (E1 := [some s', some (.fz (.str t)), none, none]) ?_ rfl
    have hp : mPrim pAdd (mCons (mRd1 dLen 1) (mCons (mLit (.int 1)) mNil)) [some s, some (.fz (.str t)), none, none] = .ok (.fz (.int ((t.length + 1 : Nat) : Int))) [some s, some (.fz (.str t)), none, none] := by
      refine x_p2 (len_str rfl (by omega)) (ev_lit _ _) ?_
      rw [v_addI]
      rfl
    rw [ev_callS (s := s) _ _ rfl, x_cons hp x_nil, bind_ok']
    simp only [List.getElem?_cons_zero, a1]
    rfl
  have h1 : (mCons (mLit (.str [])) (mCons (mLit (.str [32])) (mCons (mLit (.str [40])) (mCons (mLit (.str [41])) (mCons (mPrim pAdd (mCons (mVar 1) (mCons (mLit (.str [32])) mNil))) (mCons (mPrim pAdd (mCons (mLit (.str [32])) (mCons (mVar 1) mNil))) (mCons (mPrim pAdd (mCons (mVar 1) (mCons (mLit (.str [41])) mNil))) (mCons (mPrim pAdd (mCons (mLit (.str [40])) (mCons (mVar 1) mNil))) (mCons (mPrim pAdd (mCons (mPrim pAdd (mCons (mVar 1) (mCons (mLit (.str [44, 32])) mNil))) (mCons (mVar 1) mNil))) (mCons (mLit (.str [39])) (mCons (mLit (.str [39, 97])) (mCons (mLit (.str [97, 39])) (mCons (mLit (.str [122, 122])) mNil))))))))))))) [some s', some (.fz (.str t)), some (.fz (.int (at_ : Int))), none] = .ok (ys1.map fun y => O.fz (.str y)) [some s', some (.fz (.str t)), some (.fz (.int (at_ : Int))), none] := by
    subst hy1
    exact (x_cons (ev_lit _ _) (x_cons (ev_lit _ _) (x_cons (ev_lit _ _) (x_cons (ev_lit _ _) (x_cons (x_p2 (ev_var (d := .str t) rfl) (ev_lit _ _) (v_addS' (by simp <;> omega))) (x_cons (x_p2 (ev_lit _ _) (ev_var (d := .str t) rfl) (v_addS' (by simp <;> omega))) (x_cons (x_p2 (ev_var (d := .str t) rfl) (ev_lit _ _) (v_addS' (by simp <;> omega))) (x_cons (x_p2 (ev_lit _ _) (ev_var (d := .str t) rfl) (v_addS' (by simp <;> omega))) (x_cons (x_p2 (x_p2 (ev_var (d := .str t) rfl) (ev_lit _ _) (v_addS' (by simp <;> omega))) (ev_var (d := .str t) rfl) (v_addS' (by simp <;> omega))) (x_cons (ev_lit _ _) (x_cons (ev_lit _ _) (x_cons (ev_lit _ _) (x_cons (ev_lit _ _) x_nil)))))))))))))
  generalize hE : [some s', some (O.fz (.str t)), some (.fz (.int (at_ : Int))), some (.fz (.lst (ys1.map Mn.D.str)))] = E1 at *
  have h2 : (mCons (mLit (.str [40, 49, 44, 50, 41])) (mCons (mLit (.str [40, 49, 44, 32, 32, 50, 41])) (mCons (mLit (.str [40, 49, 32, 44, 32, 50, 41])) (mCons (mLit (.str [40, 32, 49, 41])) (mCons (mLit (.str [40, 49, 32, 41])) (mCons (mLit (.str [40, 49, 44, 32, 41])) (mCons (mLit (.str [40, 44, 32, 49, 41])) (mCons (mLit (.str [40, 49, 44, 41])) (mCons (mLit (.str [40, 39, 97, 39, 39, 98, 39, 41])) (mCons (mLit (.str [40, 48, 49, 41])) (mCons (mLit (.str [40, 45, 48, 41])) mNil))))))))))) E1 = .ok (ys2.map fun y => O.fz (.str y)) E1 := by
    subst hy2
    exact (x_cons (ev_lit _ _) (x_cons (ev_lit _ _) (x_cons (ev_lit _ _) (x_cons (ev_lit _ _) (x_cons (ev_lit _ _) (x_cons (ev_lit _ _) (x_cons (ev_lit _ _) (x_cons (ev_lit _ _) (x_cons (ev_lit _ _) (x_cons (ev_lit _ _) (x_cons (ev_lit _ _) x_nil)))))))))))
  have ha := addL (a := .fz (.lst (ys1.map Mn.D.str))) (b := .lst (ys2.map fun y => O.fz (.str y))) (s := ys1.map Mn.D.str) (t := ys2.map Mn.D.str) (toD_fz _) (by rw [toD_lst, toDs_map' (fun y : T => Mn.D.str y)]) (by simp; omega)
  rw [← List.map_append] at ha
  generalize hE2 : [some s', some (O.fz (.str t)), some (.fz (.int (at_ : Int))), some (.fz (.lst ((ys1 ++ ys2).map Mn.D.str)))] = E2 at *
  have h3 : (mCons (mLit (.str [91, 49, 93])) (mCons (mLit (.str [40, 49, 59, 32, 50, 41])) (mCons (mPrim pAdd (mCons (mPrim pAdd (mCons (mLit (.str [39, 97])) (mCons (mLit (.str [10])) mNil))) (mCons (mLit (.str [98, 39])) mNil))) (mCons (mPrim pAdd (mCons (mVar 1) (mCons (mLit (.str [10])) mNil))) (mCons (mLit (.str [40, 39, 97, 41])) (mCons (mLit (.str [40, 40, 49, 44, 32, 50, 41])) (mCons (mLit (.str [40, 49, 44, 32, 50, 41, 41])) (mCons (mPrim pAdd (mCons (mPrim pAdd (mCons (mSlice (mVar 1) mNo (mPart (mVar 2))) (mCons (mLit (.str [10])) mNil))) (mCons (mSlice (mVar 1) (mPart (mVar 2)) mNo) mNil))) mNil)))))))) E2 = .ok (ys3.map fun y => O.fz (.str y)) E2 := by
    subst hy3
    have hto : mSlice (mVar 1) mNo (mPart (mVar 2)) E2 = .ok (.fz (.str (t.take at_))) E2 := by
      subst hE2
      rw [ev_slice, ev_var (d := .str t) rfl, bind_ok', ev_no, bind_ok', part_var (k := (at_ : Int)) rfl, bind_ok']
      simp only [toD_fz, cut_to (s := t) at_ (by omega)]
    have hfrom : mSlice (mVar 1) (mPart (mVar 2)) mNo E2 = .ok (.fz (.str (t.drop at_))) E2 := by
      subst hE2
      rw [ev_slice, ev_var (d := .str t) rfl, bind_ok', part_var (k := (at_ : Int)) rfl, bind_ok', ev_no, bind_ok']
      simp only [toD_fz, cut_from (s := t) at_ (by omega)]
    have hvt : mVar 1 E2 = .ok (.fz (.str t)) E2 := by subst hE2; exact ev_var rfl
    exact (x_cons (ev_lit _ _) (x_cons (ev_lit _ _) (x_cons (x_p2 (x_p2 (ev_lit _ _) (ev_lit _ _) (v_addS' (by simp <;> omega))) (ev_lit _ _) (v_addS' (by simp <;> omega))) (x_cons (x_p2 hvt (ev_lit _ _) (v_addS' (by simp <;> omega))) (x_cons (ev_lit _ _) (x_cons (ev_lit _ _) (x_cons (ev_lit _ _) (x_cons (x_p2 (x_p2 hto (ev_lit _ _) (v_addS' (by simp <;> omega))) hfrom (v_addS' (by simp <;> omega))) x_nil))))))))
  have hb := addL (a := .fz (.lst ((ys1 ++ ys2).map Mn.D.str))) (b := .lst (ys3.map fun y => O.fz (.str y))) (s := (ys1 ++ ys2).map Mn.D.str) (t := ys3.map Mn.D.str) (toD_fz _) (by rw [toD_lst, toDs_map' (fun y : T => Mn.D.str y)]) (by simp; omega)
  rw [← List.map_append] at hb
  have b1 := x_lst h1 (by simp; omega)
  have b2 := x_lst h2 (by simp; omega)
  have b3 := x_lst h3 (by simp; omega)
  have hv1 : mVar 3 [some s', some (.fz (.str t)), some (.fz (.int (at_ : Int))), some (.lst (ys1.map fun y => O.fz (.str y)))] = .ok (.fz (.lst (ys1.map Mn.D.str))) E1 := by
    rw [ev_varL (xs := ys1.map fun y => O.fz (.str y)) rfl, toDs_map' (fun y : T => Mn.D.str y), ← hE]
    rfl
  have hv2 : mVar 3 [some s', some (.fz (.str t)), some (.fz (.int (at_ : Int))), some (.lst (((ys1 ++ ys2).map Mn.D.str).map O.fz))] = .ok (.fz (.lst ((ys1 ++ ys2).map Mn.D.str))) E2 := by
    rw [ev_varL (xs := ((ys1 ++ ys2).map Mn.D.str).map O.fz) rfl, toDs_map, ← hE2]
    rfl
  have c2 := x_p2 hv1 b2 ha
  have c3 := x_ret (x_p2 hv2 b3 hb)
  rw [← hE2] at c3
  rw [← hE] at c2
  refine ⟨_, s', ys1 ++ ys2 ++ ys3, fn_retS (x_seq r1 (x_seq (x_asg b1 rfl) (x_seq (x_asg c2 rfl) c3))), .inr rfl, fun e => ?_, by simp; omega, fun y hy => ?_, a4⟩
  · have := congrArg List.length e
    simp only [List.length_append, l1, List.length_nil] at this
    omega
  · have hlong : ∀ y ∈ ys1 ++ ys2 ++ ys3, y.length ≤ 16000000 := by
      subst hy1 hy2 hy3
      intro y hy
      simp only [List.cons_append, List.nil_append, List.mem_cons, List.not_mem_nil, or_false] at hy
      rcases hy with rfl | rfl | rfl | rfl | rfl | rfl | rfl | rfl | rfl | rfl | rfl | rfl | rfl | rfl | rfl | rfl | rfl | rfl | rfl | rfl | rfl | rfl | rfl | rfl | rfl | rfl | rfl | rfl | rfl | rfl | rfl | rfl <;> simp <;> omega
    refine ⟨?_, hlong y hy⟩
    have rd := fun (r : T) (hr : ∀ c, r.head? = some c → isS c = false) (q : Rd [[d]] false false r none) => dat_read 6 (top := []) (more := []) (pv := false) (out := none) h (by simp) hr q
    subst hy1 hy2 hy3
    simp only [List.cons_append, List.nil_append, List.mem_cons, List.not_mem_nil, or_false] at hy
    rcases hy with rfl | rfl | rfl | rfl | rfl | rfl | rfl | rfl | rfl | rfl | rfl | rfl | rfl | rfl | rfl | rfl | rfl | rfl | rfl | rfl | rfl | rfl | rfl | rfl | rfl | rfl | rfl | rfl | rfl | rfl | rfl | rfl
    · exact rdF_ok 20 _ _ _ _ (by decide)
    · exact rdF_ok 20 _ _ _ _ (by decide)
    · exact rdF_ok 20 _ _ _ _ (by decide)
    · exact rdF_ok 20 _ _ _ _ (by decide)
    · exact rd _ (fun c hc => by simp at hc; subst hc; decide) (.stop (fun z => by simp) (fun z => by simp))
    · exact .intBad (run := []) (r := 32 :: t) (c := 32) rfl (by decide) (by decide) (fun z => absurd z (by decide)) rfl (fun c hc => by simp at hc; subst hc; decide) (by simp) (by decide)
    · exact rd _ (fun c hc => by simp at hc; subst hc; decide) (.stop (fun z => by simp) (fun z => by simp))
    · refine .opn (by simp) ?_
      have := dat_read 6 (r := []) (top := []) (more := [[]]) (pv := true) (out := none) h (by simp) (fun c hc => by simp at hc) ?_
      · rw [List.append_nil] at this; exact this
      · have := Rd.fin (st := [[d], []]) (pv := false) (f := false)
        exact this
    · have e : (t ++ [44, 32]) ++ t = t ++ (44 :: 32 :: t) := by simp
      rw [e]
      exact rd _ (fun c hc => by simp at hc; subst hc; decide) (.stop (fun z => by simp) (fun z => by simp))
    · exact rdF_ok 20 _ _ _ _ (by decide)
    · exact rdF_ok 20 _ _ _ _ (by decide)
    · exact rdF_ok 20 _ _ _ _ (by decide)
    · exact rdF_ok 20 _ _ _ _ (by decide)
    · exact rdF_ok 20 _ _ _ _ (by decide)
    · exact rdF_ok 20 _ _ _ _ (by decide)
    · exact rdF_ok 20 _ _ _ _ (by decide)
    · exact rdF_ok 20 _ _ _ _ (by decide)
    · exact rdF_ok 20 _ _ _ _ (by decide)
    · exact rdF_ok 20 _ _ _ _ (by decide)
    · exact rdF_ok 20 _ _ _ _ (by decide)
    · exact rdF_ok 20 _ _ _ _ (by decide)
    · exact rdF_ok 20 _ _ _ _ (by decide)
    · exact rdF_ok 20 _ _ _ _ (by decide)
    · exact rdF_ok 20 _ _ _ _ (by decide)
    · exact rdF_ok 20 _ _ _ _ (by decide)
    · exact rdF_ok 20 _ _ _ _ (by decide)
    · exact rdF_ok 20 _ _ _ _ (by decide)
    · exact rd _ (fun c hc => by simp at hc; subst hc; decide) nl_after
    · exact rdF_ok 20 _ _ _ _ (by decide)
    · exact rdF_ok 20 _ _ _ _ (by decide)
    · exact rdF_ok 20 _ _ _ _ (by decide)
    · have e : (t.take at_ ++ [10]) ++ t.drop at_ = t.take at_ ++ 10 :: t.drop at_ := by simp
      rw [e]
      by_cases hb : t.drop at_ = []
      · have ht : t.take at_ = t := List.take_of_length_le (List.drop_eq_nil_iff.mp hb)
        rw [ht]
        exact rd _ (fun c hc => by simp at hc; subst hc; decide) nl_after
      · exact dat_nl 6 (top := []) (more := []) h (by simp) (List.take_append_drop at_ t).symm hb
end K33

set_option Elab.async false
set_option linter.all false
set_option maxRecDepth 100000
set_option maxHeartbeats 4000000
namespace K33
open Mn PySem PySem.Spec PyProof.Rows L2
open TL (numL joinL)
open PySem.NumText renaming AllDigits → AD, digitsVal → dv
/-! the law -/
theorem refused {G : Nat → List O → Cr} {j : Nat} {t : T} (hj : j = 1 ∨ j = 5) (h : G j [.fz (.str t)] = .exc 1000) : fnOf false 1 (B14 G) [.fz (.fn j), .fz (.str t)] = .ok (.fz (.bl true)) none := by
  have hm : j ∈ [1, 5] := by simp; exact hj
  have hc : mCallV G [1, 5] 0 (mCons (mVar 1) mNil) [some (.fz (.fn j)), some (.fz (.str t)), none] = .exc 1000 [some (.fz (.fn j)), some (.fz (.str t)), none] := by
    unfold mCallV
    simp only [List.getElem?_cons_zero]
    rw [if_pos hm, ev_call, x_cons (ev_var (i := 1) (d := .str t) rfl) x_nil, bind_ok']
    simp only [h]
  have hd : mDrop (mCallV G [1, 5] 0 (mCons (mVar 1) mNil)) [some (.fz (.fn j)), some (.fz (.str t)), none] = .exc 1000 [some (.fz (.fn j)), some (.fz (.str t)), none] := by
    rw [ev_drop, hc, fl_exc]
  have ht : mTryIs 1000 2 (mDrop (mCallV G [1, 5] 0 (mCons (mVar 1) mNil))) [some (.fz (.fn j)), some (.fz (.str t)), none] = .ret (.fz (.bl true)) [some (.fz (.fn j)), some (.fz (.str t)), none] := by
    unfold mTryIs
    rw [hd]
    rfl
  exact fn_ret (x_seqR ht)
theorem ints_ok {n : Nat} : Ints (sem (n + 2) 11) := by
  rw [e11]
  exact int_drawn dr_ok
theorem seven {n : Nat} : sem (n + 1) 7 = fnOf true 3 drawB := e7
theorem eight {n : Nat} : sem (n + 2) 8 = fnOf true 0 (oneB (sem (n + 2) 7)) := by
  rw [e8, seven]
  show fnOf true 0 (oneB (sem (n + 1) 7)) = _
  rw [seven]
theorem txts_ok {n : Nat} : Txts (sem (n + 3) 12) := by
  rw [e12]
  exact text_drawn dr_ok eight
theorem dats_ok : ∀ (k n : Nat), LB k ≤ 15000000 → Dats k (sem (n + k + 4) 13)
  | 0, n, hk => by
    rw [show n + 0 + 4 = (n + 3) + 1 by omega, e13]
    exact datum_step dr_ok ints_ok txts_ok 0 hk fun k' e => by omega
  | k + 1, n, hk => by
    rw [show n + (k + 1) + 4 = (n + k + 4) + 1 by omega, e13]
    refine datum_step ?_ ?_ ?_ (k + 1) hk fun k' e => ?_
    · exact dr_ok (n := n + k + 3)
    · exact ints_ok (n := n + k + 2)
    · exact txts_ok (n := n + k + 1)
    · obtain rfl : k = k' := by omega
      exact dats_ok k n (by unfold LB at hk; omega)
theorem c_start {n : Nat} (ns : List Int) : ∃ s, sem (n + 1) 6 [.fz (.scr ns)] = .ok s none ∧ Mn.St 0 s := by
  have z4 : 4 ≤ sizeLine := szt _ (by omega)
  have e : Option.map (fun o => O.fz o.toD) (oList (Mn.D.scr ns)) = some (.fz (.lst (ns.map Mn.D.int))) := by
    simp only [oList, Option.map_some, toD_lst]
    rw [show (ns.map fun n => O.fz (Mn.D.int n)) = (ns.map Mn.D.int).map O.fz by simp [List.map_map, Function.comp_def], toDs_map]
  rw [e6]
  refine ⟨.lst [.fz (.lst (ns.map Mn.D.int)), .fz (.int 0), .fz (.int 0), .fz (.int 0)], ?_, ns, 0, 0, 0, rfl, by omega, by omega, by omega, by omega⟩
  simp [fnOf, B6, pLst, pListF, z4, e]
theorem x_cS1 {φ : List O → Cr} {i : Nat} {E E1 : En} {s s1 o1 r : O} {s' : Option O} {m1 : M O} (h : E[i]? = some (some s)) (h1 : m1 E = .ok o1 E1) (h2 : E1[i]? = some (some s1)) (hg : φ [s1, o1] = .ok r s') : mCallS φ i (mCons m1 mNil) E = .ok r (E1.set i s') := by
  rw [ev_callS φ _ h, x_cons h1 x_nil, bind_ok']
  simp only [h2, hg]
theorem x_tru {m : M O} {E E1 : En} {b : Bool} (h : m E = .ok (.fz (.bl b)) E1) : mTru m E = .ok b E1 := by
  rw [ev_tru, h, bind_ok']
  simp only [toD_fz, t_bl]
theorem x_no {m : M O} {E E1 : En} (h : m E = .ok (.fz (.bl true)) E1) : mNot (mTru m) E = .ok false E1 := by
  rw [ev_not, x_tru h]
  rfl
theorem x_nor {a b : M Bool} {E E1 E2 : En} (h1 : a E = .ok false E1) (h2 : b E1 = .ok false E2) : mOr a b E = .ok false E2 := x_or (x := false) (y := false) h1 (fun _ => h2) (fun z => Bool.noConfusion z)
theorem x_both {a b : M O} {E E1 E2 : En} {o : O} (h1 : a E = .ok (.fz (.bl true)) E1) (h2 : b E1 = .ok o E2) : mAndV a b E = .ok o E2 := x_andV h1 h2
def turnB (G : Nat → List O → Cr) : Ms := (mSeq (mAsg (tTup [(tName 3), (tName 4)]) (mCallS (G 11) 1 mNil))
    (mSeq (mIf (mOr (mNot (mTru (mCall (G 10) (mCons (mCall (G 0) (mCons (mVar 3) mNil)) (mCons (mVar 4) mNil))))) (mNot (mTru (mCall (G 10) (mCons (mCall (G 1) (mCons (mVar 4) mNil)) (mCons (mVar 3) mNil))))))
    (mRet (mLit (.bl false)))
    mDone)
    (mSeq (mAsg (tTup [(tName 5), (tName 6)]) (mCallS (G 13) 1 (mCons (mLit (.int 6)) mNil)))
    (mSeq (mIf (mOr (mNot (mTru (mCall (G 10) (mCons (mCall (G 2) (mCons (mVar 5) mNil)) (mCons (mVar 6) mNil))))) (mNot (mTru (mCall (G 10) (mCons (mCall (G 5) (mCons (mVar 6) mNil)) (mCons (mVar 5) mNil))))))
    (mRet (mLit (.bl false)))
    mDone)
    (mSeq (mIf (mNot (mTru (mCall (G 14) (mCons (mLit (.fn 1)) (mCons (mCallS (G 8) 1 (mCons (mCall (G 15) (mCons (mVar 4) mNil)) mNil)) mNil)))))
    (mRet (mLit (.bl false)))
    mDone)
    (mIf (mNot (mTru (mCall (G 14) (mCons (mLit (.fn 5)) (mCons (mCallS (G 8) 1 (mCons (mCallS (G 16) 1 (mCons (mVar 6) mNil)) mNil)) mNil)))))
    (mRet (mLit (.bl false)))
    mDone))))))
/-- what is known of the defs -/
structure Kn (G : Nat → List O → Cr) : Prop where
  dr : Draws (G 7)
  hint : Ints (G 11)
  dats : Dats 6 (G 13)
  same : ∀ d, Pl 200 d → G 10 [.fz d, .fz d] = .ok (.fz (.bl true)) none
  wi : ∀ i t, LfI i t → G 0 [.fz (.int i)] = .ok (.fz (.str t)) none
  ri : ∀ i t, LfI i t → G 1 [.fz (.str t)] = .ok (.fz (.int i)) none
  wd : ∀ k d t, k ≤ 200 → Dat k d t → t.length ≤ 15000000 → G 2 [.fz d] = .ok (.fz (.str t)) none
  rd : ∀ k d t, k ≤ 200 → Dat k d t → t.length ≤ 15000000 → G 5 [.fz (.str t)] = .ok (.fz d) none
  one : ∀ C s o ds, St C s → C < 2 ^ 60 → Lsts o ds → ds ≠ [] → ds.length < 1000000 → ∃ d s', G 8 [s, o] = .ok (.fz d) (some s') ∧ d ∈ ds ∧ St (C + 1) s'
  reI : ∀ t, BadI t → G 14 [.fz (.fn 1), .fz (.str t)] = .ok (.fz (.bl true)) none
  reD : ∀ t, BadD t → G 14 [.fz (.fn 5), .fz (.str t)] = .ok (.fz (.bl true)) none
  bi : ∀ i t, LfI i t → ∃ (o : O) (ys : List T), G 15 [.fz (.str t)] = .ok o none ∧ Lsts o (ys.map Mn.D.str) ∧ ys ≠ [] ∧ ys.length < 100 ∧ ∀ y ∈ ys, BadI y
  bd : ∀ C s d t, St C s → C < 2 ^ 60 → Dat 6 d t → ∃ (o s' : O) (ys : List T), G 16 [s, .fz (.str t)] = .ok o (some s') ∧ Lsts o (ys.map Mn.D.str) ∧ ys ≠ [] ∧ ys.length < 100 ∧ (∀ y ∈ ys, BadD y) ∧ St (C + 1) s'
theorem kn : Kn (sem 229) where
  dr := dr_ok (n := 228)
  hint := ints_ok (n := 227)
  dats := dats_ok 6 219 (by decide)
  same := fun d h => same_ok (n := 27) (m := 200) h
  wi := fun i t h => lfi_write (n := 227) h
  ri := fun i t h => by
    obtain ⟨h1, h2, h3, h4, h5⟩ := lfi_ok h
    have := read_ok (n := 228) h1 (by omega)
    rw [h2] at this
    exact this
  wd := fun k d t hk h hl => by
    have := wd_ok (n := 226 - k) k h hl
    rw [show 226 - k + k + 3 = 229 by omega] at this
    exact this
  rd := fun k d t hk h hl => rd_ok (n := 226) (by omega) (by
    have := dat_read k (r := []) (top := []) (more := []) (pv := false) (out := some d) h (by simp; omega) (fun c hc => by simp at hc) (Rd.fin (st := [[d]]) (pv := false) (f := false))
    rw [List.append_nil] at this
    exact this)
  one := fun C s o ds h hC ho h0 hl => by
    rw [eight (n := 227)]
    exact one_ok dr_ok h hC ho h0 hl
  reI := fun t h => by
    rw [e14]
    exact refused (.inl rfl) (read_bad (n := 227) h.1 h.2)
  reD := fun t h => by
    rw [e14]
    exact refused (.inr rfl) (rd_bad (n := 225) h.2 h.1)
  bi := fun i t h => by
    rw [e15]
    exact bad_ints h
  bd := fun C s d t hs hC h => by
    rw [e16]
    exact bad_data dr_ok hs hC h
abbrev EW (ns : List Int) (s : O) (a2 a3 a4 a5 a6 a7 a8 a9 : Option O) : En := [some (.fz (.scr ns)), some s, a2, a3, a4, a5, a6, a7, a8, a9]
abbrev sI (i : Int) : Option O := some (.fz (.int i))
abbrev sT (t : T) : Option O := some (.fz (.str t))
theorem pl_str (t : T) : Pl 200 (.str t) := .str
theorem int_part {G : Nat → List O → Cr} (K : Kn G) {ns : List Int} {s : O} {a2 a5 a6 a7 a8 a9 : Option O} {i : Int} {t : T} (h : LfI i t) :
    (mOr (mNot (mTru (mCall (G 10) (mCons (mCall (G 0) (mCons (mVar 3) mNil)) (mCons (mVar 4) mNil))))) (mNot (mTru (mCall (G 10) (mCons (mCall (G 1) (mCons (mVar 4) mNil)) (mCons (mVar 3) mNil)))))) (EW ns s a2 (sI i) (sT t) a5 a6 a7 a8 a9) = .ok false (EW ns s a2 (sI i) (sT t) a5 a6 a7 a8 a9) :=
  x_nor (x_no (x_c2 (x_c1 (ev_var rfl) (K.wi i t h)) (ev_var rfl) (K.same _ (pl_str t)))) (x_no (x_c2 (x_c1 (ev_var rfl) (K.ri i t h)) (ev_var rfl) (K.same _ .int)))
theorem turn_ok {G : Nat → List O → Cr} (K : Kn G) {ns : List Int} {C : Nat} {s : O} {a2 a3 a4 a5 a6 : Option O} (hs : St C s) (hC : C + 10000000 < 2 ^ 60) :
    ∃ s' b3 b4 b5 b6, turnB G (EW ns s a2 a3 a4 a5 a6 none none none) = .next (EW ns s' a2 b3 b4 b5 b6 none none none) ∧ St (C + 5000000) s' := by
  have hB : BB 6 ≤ 3000000 := by decide
  obtain ⟨i, t, s1, i1, i2, i3⟩ := K.hint C s hs (by omega)
  have r1 : mAsg (tTup [(tName 3), (tName 4)]) (mCallS (G 11) 1 mNil) (EW ns s a2 a3 a4 a5 a6 none none none) = .next (EW ns s1 a2 (sI i) (sT t) a5 a6 none none none) := x_asg (x_call0 rfl i1) rfl
  have r2 := int_part K (ns := ns) (s := s1) (a2 := a2) (a5 := a5) (a6 := a6) (a7 := none) (a8 := none) (a9 := none) i2
  obtain ⟨d, w, s2, j1, j2, j3⟩ := K.dats _ s1 i3 (by omega)
  have r3 : mAsg (tTup [(tName 5), (tName 6)]) (mCallS (G 13) 1 (mCons (mLit (.int 6)) mNil)) (EW ns s1 a2 (sI i) (sT t) a5 a6 none none none) = .next (EW ns s2 a2 (sI i) (sT t) (some (.fz d)) (sT w) none none none) := x_asg (x_cS1 rfl (ev_lit _ _) rfl j1) rfl
  have hwl : w.length ≤ 15000000 := Nat.le_trans (dat_len 6 j2) (by decide)
  have hpl : Pl 200 d := (dat_pl 6 j2).up (by omega)
  have r4 : (mOr (mNot (mTru (mCall (G 10) (mCons (mCall (G 2) (mCons (mVar 5) mNil)) (mCons (mVar 6) mNil))))) (mNot (mTru (mCall (G 10) (mCons (mCall (G 5) (mCons (mVar 6) mNil)) (mCons (mVar 5) mNil)))))) (EW ns s2 a2 (sI i) (sT t) (some (.fz d)) (sT w) none none none) = .ok false (EW ns s2 a2 (sI i) (sT t) (some (.fz d)) (sT w) none none none) :=
    x_nor (x_no (x_c2 (x_c1 (ev_var rfl) (K.wd 6 d w (by omega) j2 hwl)) (ev_var rfl) (K.same _ (pl_str w)))) (x_no (x_c2 (x_c1 (ev_var rfl) (K.rd 6 d w (by omega) j2 hwl)) (ev_var rfl) (K.same _ hpl)))
  obtain ⟨o, ys, k1, k2, k3, k4, k5⟩ := K.bi i t i2
  obtain ⟨y, s3, m1, m2, m3⟩ := K.one _ s2 o (ys.map Mn.D.str) j3 (by omega) k2 (by simpa using k3) (by simp; omega)
  obtain ⟨y, hy, rfl⟩ := List.mem_map.mp m2
  have r5 := x_no (x_c2 (E := EW ns s2 a2 (sI i) (sT t) (some (.fz d)) (sT w) none none none) (E2 := EW ns s3 a2 (sI i) (sT t) (some (.fz d)) (sT w) none none none) (m1 := mLit (.fn 1)) (m2 := mCallS (G 8) 1 (mCons (mCall (G 15) (mCons (mVar 4) mNil)) mNil)) (ev_lit _ _) (x_cS1 rfl (x_c1 (ev_var rfl) k1) rfl m1) (K.reI y (k5 y hy)))
  obtain ⟨o2, s4, zs, n1, n2, n3, n4, n5, n6⟩ := K.bd _ s3 d w m3 (by omega) j2
  obtain ⟨z, s5, q1, q2, q3⟩ := K.one _ s4 o2 (zs.map Mn.D.str) n6 (by omega) n2 (by simpa using n3) (by simp; omega)
  obtain ⟨z, hz, rfl⟩ := List.mem_map.mp q2
  have r6 := x_no (x_c2 (E := EW ns s3 a2 (sI i) (sT t) (some (.fz d)) (sT w) none none none) (E2 := EW ns s5 a2 (sI i) (sT t) (some (.fz d)) (sT w) none none none) (m1 := mLit (.fn 5)) (m2 := mCallS (G 8) 1 (mCons (mCallS (G 16) 1 (mCons (mVar 6) mNil)) mNil)) (ev_lit _ _) (x_cS1 (E1 := EW ns s4 a2 (sI i) (sT t) (some (.fz d)) (sT w) none none none) rfl (x_cS1 rfl (ev_var rfl) rfl n1) rfl q1) (K.reD z (n5 z hz)))
  exact ⟨s5, sI i, sT t, some (.fz d), sT w, x_seq r1 (x_seq (x_ifF r2 rfl) (x_seq r3 (x_seq (x_ifF r4 rfl) (x_seq (x_ifF r5 rfl) (x_ifF r6 rfl))))), q3.mono (by omega)⟩
theorem v_mul2 {c n : Nat} (h : n ≤ 1000) : pMul2 [.fz (.str [c]), .fz (.int (n : Int))] = some (.fz (.str (List.replicate n c))) := by
  have e : (List.replicate n [c]).flatten = List.replicate n c := by
    induction n with
    | zero => rfl
    | succ n ih => rw [List.replicate_succ, List.flatten_cons, ih (by omega), List.replicate_succ]; rfl
  have h1 : pMulI [.fz (.str [c]), .fz (.int (n : Int))] = none := by simp [pMulI, dIIc]
  have h2 : mulS2 [.fz (.str [c]), .fz (.int (n : Int))] = some (.fz (.str (List.replicate n c))) := by
    unfold mulS2
    simp only
    rw [if_pos ⟨by omega, by omega, by simp⟩, Int.toNat_natCast, e]
  simp only [pMul2, orO, h1, h2]
theorem nest_loop {ns : List Int} {s : O} {a2 a3 a4 a6 a7 a8 : Option O} {d : Mn.D} : ∀ (q k : Nat) (a9 : Option O), ∃ b9, fIter (tName 9) (mAsg (tName 5) (mPrim pTup (mCons (mVar 5) mNil))) ((List.range' k q).map fun (i : Nat) => Mn.D.int (i : Int)) (EW ns s a2 a3 a4 (some (.fz (nestD k d))) a6 a7 a8 a9) = .next (EW ns s a2 a3 a4 (some (.fz (nestD (k + q) d))) a6 a7 a8 b9)
  | 0, k, a9 => ⟨a9, rfl⟩
  | q + 1, k, a9 => by
    obtain ⟨b9, e⟩ := nest_loop (ns := ns) (s := s) (a2 := a2) (a3 := a3) (a4 := a4) (a6 := a6) (a7 := a7) (a8 := a8) (d := d) q (k + 1) (some (.fz (.int (k : Int))))
    refine ⟨b9, ?_⟩
    rw [List.range'_succ, List.map_cons]
    unfold fIter
    rw [ev_name, fl_ok']
    simp only [List.set_cons_succ, List.set_cons_zero]
    have ht : mAsg (tName 5) (mPrim pTup (mCons (mVar 5) mNil)) (EW ns s a2 a3 a4 (some (.fz (nestD k d))) a6 a7 a8 (some (.fz (.int (k : Int))))) = .next (EW ns s a2 a3 a4 (some (.fz (nestD (k + 1) d))) a6 a7 a8 (some (.fz (.int (k : Int))))) := by
      refine x_asg (o := .fz (.tup [nestD k d])) (x_p1 (ev_var rfl) ?_) rfl
      rw [v_tup]
      refine (if_pos z1).trans ?_
      simp only [toDs_cons, toDs_nil, toD_fz]
    rw [ht, show k + (q + 1) = k + 1 + q by omega]
    exact e
end K33

set_option Elab.async false
set_option linter.all false
set_option maxRecDepth 100000
set_option maxHeartbeats 4000000
namespace K33
open Mn PySem PySem.Spec PyProof.Rows L2
open TL (numL joinL)
open PySem.NumText renaming AllDigits → AD, digitsVal → dv
theorem law_ok (ns : List Int) : ∃ s, sem 230 17 [.fz (.scr ns)] = .ok (.fz (.bl true)) s := by
  rw [show (230 : Nat) = 229 + 1 from rfl, e17]
  obtain ⟨s0, e0, hs0⟩ := c_start (n := 228) ns
  have K := kn
  rw [show 228 + 1 = 229 from rfl] at e0
  generalize sem 229 = G at e0 K ⊢
  have r1 : mAsg (tName 1) (mCall (G 6) (mCons (mVar 0) mNil)) [some (.fz (.scr ns)), none, none, none, none, none, none, none, none, none] = .next (EW ns s0 none none none none none none none none) := x_asg (x_c1 (ev_var rfl) e0) rfl
  obtain ⟨E', w, s1, a2, a3, a4, a5, a6, rfl, hs1⟩ := fIter_inv (t := tName 2) (b := turnB G) 4 (fun j E => ∃ s a2 a3 a4 a5 a6, E = EW ns s a2 a3 a4 a5 a6 none none none ∧ St (5000000 * j) s) ((List.range 4).map fun (i : Nat) => Mn.D.int (i : Int)) 0 (EW ns s0 none none none none none none none none)
    ⟨s0, none, none, none, none, none, rfl, hs0⟩ (by simp) (fun d _ j E hj ⟨s, a2, a3, a4, a5, a6, e, hs⟩ => by
      subst e
      obtain ⟨s', b3, b4, b5, b6, t1, t2⟩ := turn_ok K (ns := ns) (a2 := some (.fz d)) (a3 := a3) (a4 := a4) (a5 := a5) (a6 := a6) hs (by omega)
      exact ⟨_, rfl, _, t1, s', _, _, _, _, _, rfl, t2.mono (by omega)⟩)
  simp only [List.length_map, List.length_range] at hs1
  have r2 : mFor (tName 2) (iArgs rng1 (mCons (mLit (.int 4)) mNil)) (turnB G) (EW ns s0 none none none none none none none none) = .next (EW ns s1 a2 a3 a4 a5 a6 none none none) := by
    refine x_for (E1 := EW ns s0 none none none none none none none none) ?_ w
    have := rng1_nat 4 (by omega)
    rw [ev_args, x_cons (ev_lit _ _) x_nil, bind_ok']
    rw [show ((4 : Int)) = ((4 : Nat) : Int) from rfl, this]
  obtain ⟨n, s2, d1, d2, d3, d4⟩ := K.dr _ s1 hs1 (by omega) 5 (by omega) (by omega)
  obtain ⟨dp, hdp⟩ : ∃ dp : Nat, 198 + n = (dp : Int) := ⟨(198 + n).toNat, by omega⟩
  have hdp1 : 198 ≤ dp := by omega
  have hdp2 : dp ≤ 202 := by omega
  have r3 : mAsg (tName 7) (mPrim pAdd (mCons (mLit (.int 198)) (mCons (mCallS (G 7) 1 (mCons (mLit (.int 5)) mNil)) mNil))) (EW ns s1 a2 a3 a4 a5 a6 none none none) = .next (EW ns s2 a2 a3 a4 a5 a6 (sI (dp : Int)) none none) := by
    refine x_asg (x_p2 (ev_lit _ _) (x_draw rfl d1) ?_) rfl
    rw [v_addI, hdp]
  obtain ⟨i, t, s3, i1, i2, i3⟩ := K.hint _ s2 d4 (by omega)
  have r4 : mAsg (tTup [(tName 3), (tName 4)]) (mCallS (G 11) 1 mNil) (EW ns s2 a2 a3 a4 a5 a6 (sI (dp : Int)) none none) = .next (EW ns s3 a2 (sI i) (sT t) a5 a6 (sI (dp : Int)) none none) := x_asg (x_call0 rfl i1) rfl
  obtain ⟨_, _, _, hl, _⟩ := lfi_ok i2
  generalize hN : List.replicate dp 40 ++ t ++ List.replicate dp 41 = N
  have hNl : N.length ≤ 1000 := by rw [← hN]; simp; omega
  have v1 := v_addS' (s := List.replicate dp 40) (t := t) (by simp; omega)
  have v2 := v_addS' (s := List.replicate dp 40 ++ t) (t := List.replicate dp 41) (by simp; omega)
  rw [hN] at v2
  have r5 : mAsg (tName 8) (mPrim pAdd (mCons (mPrim pAdd (mCons (mPrim pMul2 (mCons (mLit (.str [40])) (mCons (mVar 7) mNil))) (mCons (mVar 4) mNil))) (mCons (mPrim pMul2 (mCons (mLit (.str [41])) (mCons (mVar 7) mNil))) mNil))) (EW ns s3 a2 (sI i) (sT t) a5 a6 (sI (dp : Int)) none none) = .next (EW ns s3 a2 (sI i) (sT t) a5 a6 (sI (dp : Int)) (sT N) none) :=
    x_asg (x_p2 (x_p2 (x_p2 (ev_lit _ _) (ev_var rfl) (v_mul2 (by omega))) (ev_var rfl) v1) (x_p2 (ev_lit _ _) (ev_var rfl) (v_mul2 (by omega))) v2) rfl
  have hc := x_asB (x_p2 (E := EW ns s3 a2 (sI i) (sT t) a5 a6 (sI (dp : Int)) (sT N) none) (m1 := mVar 7) (m2 := mLit (.int 200)) (ev_var rfl) (ev_lit _ _) (v_gt (dp : Int) 200))
  by_cases h200 : 200 < dp
  · rw [decide_eq_true (show (200 : Int) < (dp : Int) by omega)] at hc
    have b1 : BadD N := ⟨by rw [← hN, List.append_assoc]; exact deep_bad dp [[]] false (by simp) (by simp; omega), by omega⟩
    have b2 : BadD (List.replicate dp 40 ++ List.replicate dp 41) := ⟨deep_bad dp [[]] false (by simp) (by simp; omega), by simp; omega⟩
    have v3 := v_addS' (s := List.replicate dp 40) (t := List.replicate dp 41) (by simp; omega)
    have c1 := x_c2 (E := EW ns s3 a2 (sI i) (sT t) a5 a6 (sI (dp : Int)) (sT N) none) (m1 := mLit (.fn 5)) (m2 := mVar 8) (ev_lit _ _) (ev_var rfl) (K.reD N b1)
    have c2 := x_c2 (E := EW ns s3 a2 (sI i) (sT t) a5 a6 (sI (dp : Int)) (sT N) none) (m1 := mLit (.fn 5)) (ev_lit _ _) (x_p2 (x_p2 (ev_lit (.str [40]) _) (ev_var (i := 7) rfl) (v_mul2 (by omega))) (x_p2 (ev_lit (.str [41]) _) (ev_var (i := 7) rfl) (v_mul2 (by omega))) v3) (K.reD _ b2)
    exact ⟨none, fn_ret (x_seq r1 (x_seq r2 (x_seq r3 (x_seq r4 (x_seq r5 (x_seqR (x_ifT hc (x_ret (x_both c1 c2)))))))))⟩
  · rw [decide_eq_false (show ¬ (200 : Int) < (dp : Int) by omega)] at hc
    have hD := nest_dat i2 dp
    rw [hN] at hD
    have r6 : mAsg (tName 5) (mVar 3) (EW ns s3 a2 (sI i) (sT t) a5 a6 (sI (dp : Int)) (sT N) none) = .next (EW ns s3 a2 (sI i) (sT t) (some (.fz (nestD 0 (.int i)))) a6 (sI (dp : Int)) (sT N) none) := x_asg (ev_var rfl) rfl
    obtain ⟨b9, w7⟩ := nest_loop (ns := ns) (s := s3) (a2 := a2) (a3 := sI i) (a4 := sT t) (a6 := a6) (a7 := sI (dp : Int)) (a8 := sT N) (d := .int i) dp 0 none
    rw [← List.range_eq_range', Nat.zero_add] at w7
    have r7 : mFor (tName 9) (iArgs rng1 (mCons (mVar 7) mNil)) (mAsg (tName 5) (mPrim pTup (mCons (mVar 5) mNil))) (EW ns s3 a2 (sI i) (sT t) (some (.fz (nestD 0 (.int i)))) a6 (sI (dp : Int)) (sT N) none) = .next (EW ns s3 a2 (sI i) (sT t) (some (.fz (nestD dp (.int i)))) a6 (sI (dp : Int)) (sT N) b9) := by
      refine x_for (E1 := EW ns s3 a2 (sI i) (sT t) (some (.fz (nestD 0 (.int i)))) a6 (sI (dp : Int)) (sT N) none) ?_ w7
      rw [ev_args, x_cons (ev_var (d := .int (dp : Int)) rfl) x_nil, bind_ok', rng1_nat dp (by omega)]
    have hpl : Pl 200 (nestD dp (.int i)) := (dat_pl dp hD).up (by omega)
    have c1 := x_c2 (E := EW ns s3 a2 (sI i) (sT t) (some (.fz (nestD dp (.int i)))) a6 (sI (dp : Int)) (sT N) b9) (m1 := mCall (G 5) (mCons (mVar 8) mNil)) (m2 := mVar 5) (x_c1 (ev_var rfl) (K.rd dp _ N (by omega) hD (by omega))) (ev_var rfl) (K.same _ hpl)
    have c2 := x_c2 (E := EW ns s3 a2 (sI i) (sT t) (some (.fz (nestD dp (.int i)))) a6 (sI (dp : Int)) (sT N) b9) (m1 := mCall (G 2) (mCons (mVar 5) mNil)) (m2 := mVar 8) (x_c1 (ev_var rfl) (K.wd dp _ N (by omega) hD (by omega))) (ev_var rfl) (K.same _ (pl_str N))
    exact ⟨none, fn_ret (x_seq r1 (x_seq r2 (x_seq r3 (x_seq r4 (x_seq r5 (x_seq (x_ifF hc rfl) (x_seq r6 (x_seq r7 (x_ret (x_both c1 c2))))))))))⟩
end K33

set_option Elab.async false
set_option linter.all false
set_option maxRecDepth 100000
set_option maxHeartbeats 0
namespace K33
open PySem PySem.Spec PyProof.Rows L2 Mn
abbrev R : PySem.W.OpenRow := PySem.W.OpenLaw.row PySem.Challenge.rw_allitems_k33_integers_and_data
abbrev hk : PySem.W.Hook := Mn.hookN 6 fa fn ts exs
def ob (s : PySem.W.SharedT) : Mn.AlN := Mn.obsNG 6 fa fn ts exs (HandSHeadRun.getT s)
theorem ob_eq (s : PySem.W.SharedT) : ob s = hk.obs s.abs := Mn.obsNG_eq (HandSHeadRun.getT_eq s)
def loose0 : List Str := ["AllitemsError", "BadText", "BASE", "DIGITS", "write_integer", "read_integer", "DEPTH", "SIGNS", "write_data", "plain_text", "read_plain", "read_data", "_law_start", "_law_draw", "_law_one_of", "_law_is_int", "_law_same", "_law_integer_drawn", "_law_text_drawn", "_law_datum_drawn", "_law_is_refused", "_law_bad_integers", "_law_bad_data"]
def loose : List Str := loose0
theorem run0 (w : World) : HandSHeadRun.RunEq R (PySem.W.view R.prog [27]) hk ob 6000 loose (w.withFollow "special-get-raises" false) := by
  intro os
  kernel_rfl
theorem run1 (w : World) : HandSHeadRun.RunEq R (PySem.W.view R.prog [27]) hk ob 6000 loose (w.withFollow "special-get-raises" true) := by
  intro os
  kernel_rfl
theorem run (w : World) : HandSHeadRun.RunEq R (PySem.W.view R.prog [27]) hk ob 6000 loose w := PySem.W.byRow2 "special-get-raises" (P := fun w => HandSHeadRun.RunEq R (PySem.W.view R.prog [27]) hk ob 6000 loose w) run0 run1 w
end K33
open PySem PySem.W PySem.Calls PyProof.Rows
theorem K33.holds_of (hsem : ∀ ns : List Int, ns.length ≤ 63 → ∃ s, K33.sem 230 17 [.fz (.scr ns)] = .ok (.fz (.bl true)) s) : PySem.Challenge.rw_allitems_k33_integers_and_data.Holds := by
  w_on; o_law
  refine HandSHeadRun.head_any (r := OpenLaw.row PySem.Challenge.rw_allitems_k33_integers_and_data) (q := view (OpenLaw.row PySem.Challenge.rw_allitems_k33_integers_and_data).prog [27]) (H := K33.hk) (ob := K33.ob) (M := 6000) (loose := K33.loose) (d := HandSHeadRun.topDef (OpenLaw.row PySem.Challenge.rw_allitems_k33_integers_and_data).prog 27) (kwd := []) K33.ob_eq
    (by kernel_rfl) (fun s => by kernel_rfl) K33.run (by kernel_rfl) (by kernel_rfl) (by kernel_rfl) (by rfl) (by first | assumption | decide +kernel) (by decide +kernel) ⟨rfl, rfl, rfl, rfl, rfl, by decide +kernel⟩ ?hw ?hc
  case hw => w_witness2
  case hc =>
    refine L2.walk_ofE (l := PySem.Challenge.rw_allitems_k33_integers_and_data) (n := 63) (k := 230) (x := "script") (CX := Mn.CX1) rfl (by decide) (by kernel_rfl) ⟨rfl, by decide, by decide⟩ ?F (fun _ _ _ _ z => Mn.CX1_no z)
    intro w mg fa h Y G hmg0
    obtain ⟨K, KX, c0⟩ := Y
    have ct := c0.t
    have c := ct.d
    have cx := c0.x
    have hmg : mg ("law" : PySem.Str) = some (.ref fa) := by
      have e : (HandSHeadRun.topDef (OpenLaw.row PySem.Challenge.rw_allitems_k33_integers_and_data).prog 27).name = ("law" : PySem.Str) := by kernel_rfl
      rw [← e]
      exact hmg0
    obtain ⟨fd, F⟩ := c.def_ 17 (d := K33.dD "law" 27) rfl
    have e := hmg.symm.trans (K33.qg37 c KX G)
    cases e
    have b := L2.FunD.bindsA (ps := ["script"]) F fun _ _ _ _ _ _ us hl => match us, hl with | [_], _ => rfl
    exact ⟨K, fd, _, KX, fun s u => b s [u] rfl, fun H a ns hl _ hS => Mn.law_sp (hsem ns hl) hS, fun base KB GB => Mn.cx1 (K33.ok17 (ad := K33.adOf K) F c cx ct (K33.adOf_ok K) KB GB (K33.allOk c cx ct (K33.adOf_ok K) KB GB 229)).1⟩
theorem PySem.Challenge.cw_allitems_k33_integers_and_data_holds : PySem.Challenge.rw_allitems_k33_integers_and_data.Holds := by
  exact K33.holds_of (fun ns _ => K33.law_ok ns)
