import PyProof.Rows.All
import Wide.All
import OpenK.AllK
import Wide.FinOn
import HandS.ForMost
import HandS.Exc
import HandS.ExcOwn
import HandS.WordsExc
import HandS.TupAny
import HandS.TupMul
import HandS.Zip
import HandS.SortInts
import HandS.IsInst
import HandS.Conv
import HandS.Lambda
import HandS.Nested
import HandS.HeadWalk
import HandS.Style
import HandS.Wide
import KE.SortData
import HandS.RevTup
import HandS.SetFor
import HandS.Strs
import HandS.Flt
import HandS.More
import HandS.Iter
import HandS.OwnIter
import KE.KDictZip
import PyProof.Draws
import HandS.Small
import HandS.Ends
import PySem.Challenge.RW_linesync_k15_whole_changes_without_anoth
set_option Elab.async false
set_option linter.all false
set_option maxRecDepth 100000
/-! Lin, part A: plain data, stores, how they lie in an abstract heap. -/
namespace Lin
open PySem PySem.Spec PyProof.Rows L2

/-- plain data; ref: a cell of the store -/
inductive Dat where
  | non | bl (b : Bool) | int (i : Int) | str (x : Str)
  | tup (xs : List Dat) | lst (xs : List Dat) | ref (n : Nat)
  /-- a function that was handed in -/
  | fn (f : Addr)
/-- what may be changed: a list, a dict -/
inductive Cell where
  | lst (xs : List Dat) | dic (t : Bool) (kvs : List (Dat × Dat)) | ins (f : Option Nat) | tab (n : Nat) (P : Addr) (q : Str)
inductive Slot where
  | dat (d : Dat) | own (c : Cell)
abbrev Env := List (Option Slot)
abbrev Store := List Cell

/-- heap growth that keeps everything -/
def Ex (H H' : Hp) : Prop := ∀ a o, H a = some o → H' a = some o
theorem Ex.refl (H : Hp) : Ex H H := fun _ _ h => h
theorem Ex.trans {H H1 H2 : Hp} (a : Ex H H1) (b : Ex H1 H2) : Ex H H2 := fun x o h => b x o (a x o h)
theorem Ex.new {H : Hp} {p : Addr} {o : HO} (h : H p = none) : Ex H (upd H p o) := fun a u e => by
  rw [upd_ne (ne_of_none e h)]
  exact e
theorem Ex.nn {H H' : Hp} {p : Addr} (e : Ex H H') (h : H' p = none) : H p = none := by
  cases q : H p with
  | none => rfl
  | some o => rw [e p o q] at h; cases h
theorem Ex.rd {H H' : Hp} {a : Addr} {u : HO} (e : Ex H H') (h : Rd H a u) : Rd H' a u := by
  rcases h with h | ⟨o, h⟩
  · exact .inl (e a _ h)
  · exact .inr ⟨o, e a _ h⟩
theorem Ex.sl {K : PySem.W.Frag} {H H' : Hp} {a : Addr} {xs : List V} (e : Ex H H') (h : SqL K H a xs) : SqL K H' a xs := by
  rcases h with h | h
  · exact .inl (e.rd h)
  · exact .inr h
theorem Ex.st {K : PySem.W.Frag} {H H' : Hp} {a : Addr} {xs : List V} (e : Ex H H') (h : SqT K H a xs) : SqT K H' a xs := by
  rcases h with h | h
  · exact .inl (e.rd h)
  · exact .inr h
theorem Ex.updR {B H : Hp} {p : Addr} {o : HO} (e : Ex B H) (h : B p = none) : Ex B (upd H p o) := fun a u q => by
  rw [upd_ne (ne_of_none q h)]
  exact e a u q
theorem Ex.upd2 {B H : Hp} {p : Addr} {o : HO} (e : Ex B H) : Ex (upd B p o) (upd H p o) := fun a u q => by
  by_cases h : a = p
  · subst h; rw [upd_same] at q ⊢; exact q
  · rw [upd_ne h] at q ⊢; exact e a u q

mutual
/-- the value v is the datum d; B: what stands for good, th: where the cells lie -/
inductive Rep (K : PySem.W.Frag) (B : Hp) (th : List Addr) : Dat → V → Prop
  | non : Rep K B th .non .non
  | bl (b : Bool) : Rep K B th (.bl b) (.bl b)
  | int (i : Int) : Rep K B th (.int i) (.int i)
  | str (x : Str) : Rep K B th (.str x) (.str x)
  | tup {a : Addr} {vs : List V} {ds : List Dat} : B a = some (.tup vs) → Reps K B th ds vs → Rep K B th (.tup ds) (.ref a)
  | lst {a : Addr} {vs : List V} {ds : List Dat} : SqL K B a vs → Reps K B th ds vs → Rep K B th (.lst ds) (.ref a)
  | ref {n : Nat} {a : Addr} : th[n]? = some a → Rep K B th (.ref n) (.ref a)
  | fn (f : Addr) : Rep K B th (.fn f) (.ref f)
inductive Reps (K : PySem.W.Frag) (B : Hp) (th : List Addr) : List Dat → List V → Prop
  | nil : Reps K B th [] []
  | cons {d : Dat} {ds : List Dat} {v : V} {vs : List V} : Rep K B th d v → Reps K B th ds vs → Reps K B th (d :: ds) (v :: vs)
end

section
variable {K : PySem.W.Frag} {B B' : Hp} {th th' : List Addr}
theorem pre_get {th th' : List Addr} (p : th <+: th') {n : Nat} {a : Addr} (h : th[n]? = some a) : th'[n]? = some a := by
  obtain ⟨r, rfl⟩ := p
  rw [List.getElem?_append_left (List.getElem?_eq_some_iff.mp h).1]
  exact h
mutual
theorem Rep.mono (e : Ex B B') (p : th <+: th') : ∀ {d : Dat} {v : V}, Rep K B th d v → Rep K B' th' d v
  | _, _, .non => .non
  | _, _, .bl b => .bl b
  | _, _, .int i => .int i
  | _, _, .str x => .str x
  | _, _, .tup h r => .tup (e _ _ h) (Reps.mono e p r)
  | _, _, .lst h r => .lst (e.sl h) (Reps.mono e p r)
  | _, _, .ref h => .ref (pre_get p h)
  | _, _, .fn f => .fn f
theorem Reps.mono (e : Ex B B') (p : th <+: th') : ∀ {ds : List Dat} {vs : List V}, Reps K B th ds vs → Reps K B' th' ds vs
  | _, _, .nil => .nil
  | _, _, .cons h r => .cons (Rep.mono e p h) (Reps.mono e p r)
end
theorem Reps.length : ∀ {ds : List Dat} {vs : List V}, Reps K B th ds vs → vs.length = ds.length
  | _, _, .nil => rfl
  | _, _, .cons _ r => by rw [List.length_cons, List.length_cons, r.length]
theorem Reps.get : ∀ {ds : List Dat} {vs : List V} {i : Nat} {d : Dat}, Reps K B th ds vs → ds[i]? = some d → ∃ v, vs[i]? = some v ∧ Rep K B th d v
  | _, _, _, _, .nil, h => by simp at h
  | _, _, 0, _, .cons r _, h => by
    simp at h; subst h; exact ⟨_, rfl, r⟩
  | _, _, i + 1, d, .cons _ r, h => by
    obtain ⟨v, h1, h2⟩ := Reps.get (i := i) r (by simpa using h)
    exact ⟨v, by simpa using h1, h2⟩
theorem Reps.get' : ∀ {ds : List Dat} {vs : List V} {i : Nat} {v : V}, Reps K B th ds vs → vs[i]? = some v → ∃ d, ds[i]? = some d ∧ Rep K B th d v
  | _, _, _, _, .nil, h => by simp at h
  | _, _, 0, _, .cons r _, h => by
    simp at h; subst h; exact ⟨_, rfl, r⟩
  | _, _, i + 1, d, .cons _ r, h => by
    obtain ⟨v, h1, h2⟩ := Reps.get' (i := i) r (by simpa using h)
    exact ⟨v, by simpa using h1, h2⟩
theorem Reps.append : ∀ {ds es : List Dat} {vs ws : List V}, Reps K B th ds vs → Reps K B th es ws → Reps K B th (ds ++ es) (vs ++ ws)
  | _, _, _, _, .nil, s => s
  | _, _, _, _, .cons r t, s => .cons r (Reps.append t s)
theorem Reps.take : ∀ {ds : List Dat} {vs : List V} (n : Nat), Reps K B th ds vs → Reps K B th (ds.take n) (vs.take n)
  | _, _, 0, _ => by rw [List.take_zero, List.take_zero]; exact .nil
  | _, _, _ + 1, .nil => .nil
  | _, _, n + 1, .cons r t => .cons r (Reps.take n t)
theorem Reps.drop : ∀ {ds : List Dat} {vs : List V} (n : Nat), Reps K B th ds vs → Reps K B th (ds.drop n) (vs.drop n)
  | _, _, 0, r => r
  | _, _, _ + 1, .nil => .nil
  | _, _, n + 1, .cons _ t => Reps.drop n t
theorem Reps.set {d : Dat} {v : V} (r : Rep K B th d v) : ∀ {ds : List Dat} {vs : List V} (i : Nat), Reps K B th ds vs → Reps K B th (ds.set i d) (vs.set i v)
  | _, _, _, .nil => .nil
  | _, _, 0, .cons _ t => .cons r t
  | _, _, i + 1, .cons q t => .cons q (Reps.set r i t)
theorem Reps.dropLast : ∀ {ds : List Dat} {vs : List V}, Reps K B th ds vs → Reps K B th ds.dropLast vs.dropLast
  | _, _, .nil => .nil
  | _, _, .cons _ .nil => .nil
  | _, _, .cons r (.cons q t) => .cons r (Reps.dropLast (.cons q t))
theorem Reps.reverse {ds : List Dat} {vs : List V} (h : Reps K B th ds vs) : Reps K B th ds.reverse vs.reverse := by
  induction ds generalizing vs with
  | nil => cases h; exact .nil
  | cons d ds ih =>
    cases h with
    | cons r t =>
      rw [List.reverse_cons, List.reverse_cons]
      exact (ih t).append (.cons r .nil)
theorem Reps.rep {ds : List Dat} {vs : List V} (h : Reps K B th ds vs) : ∀ n : Nat, Reps K B th (List.replicate n ds).flatten (List.replicate n vs).flatten
  | 0 => .nil
  | n + 1 => by
    rw [List.replicate_succ, List.replicate_succ, List.flatten_cons, List.flatten_cons]
    exact h.append (Reps.rep h n)
/-- ints -/
theorem Reps.ints : ∀ {ns : List Int} {vs : List V}, Reps K B th (ns.map .int) vs → vs = ns.map V.int
  | [], _, h => by cases h; rfl
  | n :: ns, _, h => by
    rw [List.map_cons] at h
    cases h with
    | cons r t => cases r; rw [Reps.ints t]; rfl
theorem Reps.ofInts : ∀ ns : List Int, Reps K B th (ns.map .int) (ns.map V.int)
  | [] => .nil
  | n :: ns => .cons (.int n) (Reps.ofInts ns)
theorem Reps.bls : ∀ {ns : List Bool} {vs : List V}, Reps K B th (ns.map .bl) vs → vs = ns.map V.bl
  | [], _, h => by cases h; rfl
  | n :: ns, _, h => by
    rw [List.map_cons] at h
    cases h with
    | cons r t => cases r; rw [Reps.bls t]; rfl
theorem Reps.strs : ∀ {ns : List Str} {vs : List V}, Reps K B th (ns.map .str) vs → vs = ns.map V.str
  | [], _, h => by cases h; rfl
  | n :: ns, _, h => by
    rw [List.map_cons] at h
    cases h with
    | cons r t => cases r; rw [Reps.strs t]; rfl
end

/-! ### dicts -/
def keyD : Key → Dat
  | .inl i => .int i
  | .inr x => .str x
/-- the entries, in order -/
inductive DRepK (K : PySem.W.Frag) (B : Hp) (th : List Addr) : List (Dat × Dat) → List (Key × V) → Prop
  | nil : DRepK K B th [] []
  | cons {k : Key} {d : Dat} {v : V} {kvs : List (Dat × Dat)} {ws : List (Key × V)} : Rep K B th d v → DRepK K B th kvs ws → DRepK K B th ((keyD k, d) :: kvs) ((k, v) :: ws)
inductive DRepT (K : PySem.W.Frag) (B : Hp) (th : List Addr) : List (Dat × Dat) → List (List Key × V) → Prop
  | nil : DRepT K B th [] []
  | cons {k : List Key} {d : Dat} {v : V} {kvs : List (Dat × Dat)} {ws : List (List Key × V)} : Rep K B th d v → DRepT K B th kvs ws → DRepT K B th ((.tup (k.map keyD), d) :: kvs) ((k, v) :: ws)
section
variable {K : PySem.W.Frag} {B B' : Hp} {th th' : List Addr}
theorem DRepK.mono (e : Ex B B') (p : th <+: th') : ∀ {kvs : List (Dat × Dat)} {ws : List (Key × V)}, DRepK K B th kvs ws → DRepK K B' th' kvs ws
  | _, _, .nil => .nil
  | _, _, .cons r t => .cons (r.mono e p) (DRepK.mono e p t)
theorem DRepT.mono (e : Ex B B') (p : th <+: th') : ∀ {kvs : List (Dat × Dat)} {ws : List (List Key × V)}, DRepT K B th kvs ws → DRepT K B' th' kvs ws
  | _, _, .nil => .nil
  | _, _, .cons r t => .cons (r.mono e p) (DRepT.mono e p t)
end
/-- the class Editor, as the top has made it -/
def EdC (K : PySem.W.Frag) (C : Addr) : Prop := PySem.W.nsIn K mainGlobals "Editor" = some (some (.ref C))
theorem EdC.eq {K : PySem.W.Frag} {C D : Addr} (h : EdC K C) (h' : EdC K D) : C = D := by
  have e := Eq.trans (Eq.symm h) h'
  injection e with e
  injection e with e
  injection e
inductive CellOk (K : PySem.W.Frag) (B : Hp) (th : List Addr) : Cell → HO → Prop
  | lst {ds : List Dat} {vs : List V} : Reps K B th ds vs → CellOk K B th (.lst ds) (.lst vs)
  | dicK {kvs : List (Dat × Dat)} {ws : List (Key × V)} : DRepK K B th kvs ws → CellOk K B th (.dic false kvs) (.dK ws)
  | dicT {kvs : List (Dat × Dat)} {ws : List (List Key × V)} : DRepT K B th kvs ws → CellOk K B th (.dic true kvs) (.dT ws)
  | ins0 {C dx : Addr} : EdC K C → CellOk K B th (.ins none) (.ins C dx [])
  | tab {n : Nat} {P : Addr} {q : Str} {ps : Array Value} : th[n]? = some P → TriplesOk ps.toList → (∀ (pos : Pos) (cv : Value), codeAmong pos ps.toList = some cv → ∃ c, cv = .ref c ∧ B c = some (LamX.CodeO c q)) → CellOk K B th (.tab n P q) (.tbl ps)
  | ins1 {C dx l : Addr} {m : Nat} : EdC K C → th[m]? = some l → CellOk K B th (.ins (some m)) (.ins C dx [("states", .ref l)])
theorem CellOk.mono {K : PySem.W.Frag} {B B' : Hp} {th th' : List Addr} (e : Ex B B') (p : th <+: th') {c : Cell} {o : HO} (h : CellOk K B th c o) : CellOk K B' th' c o := by
  cases h with
  | lst r => exact .lst (r.mono e p)
  | dicK r => exact .dicK (r.mono e p)
  | dicT r => exact .dicT (r.mono e p)
  | ins0 c => exact .ins0 c
  | ins1 c q => exact .ins1 c (pre_get p q)
  | tab h1 h2 h3 =>
    refine .tab (pre_get p h1) h2 fun pos cv h => ?_
    obtain ⟨c, g1, g2⟩ := h3 pos cv h
    exact ⟨c, g1, e _ _ g2⟩
/-! ### states -/
/-- the cells lie in H as mu says -/
structure SRc (K : PySem.W.Frag) (B H : Hp) (th : List Addr) (mu : Store) : Prop where
  ex : Ex B H
  len : th.length = mu.length
  cell : ∀ (n : Nat) (c : Cell), mu[n]? = some c → ∃ (a : Addr) (o : HO), th[n]? = some a ∧ B a = none ∧ H a = some o ∧ CellOk K B th c o
  nd : th.Nodup
/-- .. and the slots as rho says -/
structure SR (K : PySem.W.Frag) (B H : Hp) (th : List Addr) (mu : Store) (rho : Env) (sg : L2.St) : Prop extends SRc K B H th mu where
  sl : rho.length = sg.length
  dat : ∀ (i : Nat) (d : Dat), rho[i]? = some (some (.dat d)) → ∃ v, sg[i]? = some (some v) ∧ Rep K B th d v
  own : ∀ (i : Nat) (c : Cell), rho[i]? = some (some (.own c)) → ∃ (a : Addr) (o : HO), sg[i]? = some (some (.ref a)) ∧ B a = none ∧ a ∉ th ∧ H a = some o ∧ CellOk K B th c o
  apart : ∀ (i j : Nat) (c c' : Cell) (a : Addr), rho[i]? = some (some (.own c)) → rho[j]? = some (some (.own c')) → sg[i]? = some (some (.ref a)) → sg[j]? = some (some (.ref a)) → i = j
/-- what may have happened meanwhile -/
structure Fut (B H : Hp) (th : List Addr) (B' H' : Hp) (th' : List Addr) : Prop where
  ex : Ex B B'
  pre : th <+: th'
  fr : ∀ a o, H a = some o → a ∉ th → H' a = some o
  nw : ∀ a, a ∈ th' → a ∈ th ∨ H a = none
  bn : ∀ a, B' a ≠ none → B a ≠ none ∨ H a = none ∨ ∃ vs, H a = some (.tup vs)
  dom : ∀ a, H' a = none → H a = none
  tp : ∀ a vs, H' a = some (.tup vs) → H a = none ∨ H a = some (.tup vs)
section
variable {K : PySem.W.Frag} {B B1 B2 H H1 H2 : Hp} {th th1 th2 : List Addr} {mu mu' : Store} {rho : Env} {sg : L2.St}
theorem Fut.refl (B H : Hp) (th : List Addr) : Fut B H th B H th :=
  ⟨.refl _, List.prefix_refl _, fun _ _ h _ => h, fun _ h => .inl h, fun _ h => .inl h, fun _ h => h, fun _ _ h => .inr h⟩
theorem Fut.trans (a : Fut B H th B1 H1 th1) (b : Fut B1 H1 th1 B2 H2 th2) : Fut B H th B2 H2 th2 where
  ex := a.ex.trans b.ex
  pre := a.pre.trans b.pre
  fr := fun x o h hn => b.fr x o (a.fr x o h hn) (fun hm => by
    rcases a.nw x hm with q | q
    · exact hn q
    · rw [h] at q; cases q)
  nw := fun x h => by
    rcases b.nw x h with q | q
    · exact a.nw x q
    · exact .inr (a.dom x q)
  bn := fun x h => by
    rcases b.bn x h with q | q | ⟨vs, q⟩
    · exact a.bn x q
    · exact .inr (.inl (a.dom x q))
    · rcases a.tp x vs q with z | z
      · exact .inr (.inl z)
      · exact .inr (.inr ⟨vs, z⟩)
  dom := fun x h => a.dom x (b.dom x h)
  tp := fun x vs h => by
    rcases b.tp x vs h with q | q
    · exact .inl (a.dom x q)
    · exact a.tp x vs q
theorem CellOk.notup {K : PySem.W.Frag} {B : Hp} {th : List Addr} {c : Cell} {o : HO} (h : CellOk K B th c o) : ∀ ps, o ≠ .tup ps := fun ps e => by
  subst e; cases h
/-- the slots are carried along -/
theorem SR.fut (s : SR K B H th mu rho sg) (c : SRc K B1 H1 th1 mu') (f : Fut B H th B1 H1 th1) : SR K B1 H1 th1 mu' rho sg where
  toSRc := c
  sl := s.sl
  dat := fun i d h => by
    obtain ⟨v, h1, h2⟩ := s.dat i d h
    exact ⟨v, h1, h2.mono f.ex f.pre⟩
  own := fun i x h => by
    obtain ⟨a, o, h1, h2, h3, h4, h5⟩ := s.own i x h
    refine ⟨a, o, h1, ?_, fun hm => ?_, f.fr a o h4 h3, h5.mono f.ex f.pre⟩
    · cases q : B1 a with
      | none => rfl
      | some u =>
        rcases f.bn a (by rw [q]; simp) with z | z | ⟨vs, z⟩
        · exact absurd h2 z
        · rw [h4] at z; cases z
        · rw [h4] at z; exact absurd (Option.some.inj z) (h5.notup vs)
    · rcases f.nw a hm with z | z
      · exact h3 z
      · rw [h4] at z; cases z
  apart := s.apart
/-- a new object that stands for good -/
theorem SRc.new {p : Addr} {o : HO} (s : SRc K B H th mu) (h : H p = none) : SRc K (upd B p o) (upd H p o) th mu where
  ex := s.ex.upd2
  len := s.len
  cell := fun n c hn => by
    obtain ⟨a, u, h1, h2, h3, h4⟩ := s.cell n c hn
    have ne : a ≠ p := ne_of_none h3 h
    exact ⟨a, u, h1, by rw [upd_ne ne]; exact h2, by rw [upd_ne ne]; exact h3, h4.mono (Ex.new (s.ex.nn h)) (List.prefix_refl _)⟩
  nd := s.nd
theorem Fut.new {p : Addr} {o : HO} (e : Ex B H) (h : H p = none) : Fut B H th (upd B p o) (upd H p o) th where
  ex := Ex.new (e.nn h)
  pre := List.prefix_refl _
  fr := fun a u q _ => Ex.new h a u q
  nw := fun _ q => .inl q
  bn := fun a q => by
    by_cases z : a = p
    · subst z; exact .inr (.inl h)
    · rw [upd_ne z] at q; exact .inl q
  dom := fun a q => (Ex.new (o := o) h).nn q
  tp := fun a vs q => by
    by_cases z : a = p
    · subst z; exact .inl h
    · rw [upd_ne z] at q; exact .inr q
/-- a new object that nobody speaks of -/
theorem SRc.skip {p : Addr} {o : HO} (s : SRc K B H th mu) (h : H p = none) : SRc K B (upd H p o) th mu where
  ex := s.ex.updR (s.ex.nn h)
  len := s.len
  cell := fun n c hn => by
    obtain ⟨a, u, h1, h2, h3, h4⟩ := s.cell n c hn
    exact ⟨a, u, h1, h2, by rw [upd_ne (ne_of_none h3 h)]; exact h3, h4⟩
  nd := s.nd
theorem Fut.skip {p : Addr} {o : HO} (h : H p = none) : Fut B H th B (upd H p o) th where
  ex := .refl _
  pre := List.prefix_refl _
  fr := fun a u q _ => Ex.new h a u q
  nw := fun _ q => .inl q
  bn := fun a q => .inl q
  dom := fun a q => (Ex.new (o := o) h).nn q
  tp := fun a vs q => by
    by_cases z : a = p
    · subst z; exact .inl h
    · rw [upd_ne z] at q; exact .inr q
/-- tuples that H has beside B are taken to stand for good -/
theorem SRc.keepTups (s : SRc K B H th mu) (bs : List Addr) (hb : ∀ b ∈ bs, ∃ vs, H b = some (.tup vs)) : ∃ B', SRc K B' H th mu ∧ Fut B H th B' H th ∧ ∀ b ∈ bs, B' b = H b := by
  classical
  have e : Ex B (fun a => if a ∈ bs then H a else B a) := fun a o q => by
    show (if a ∈ bs then H a else B a) = _
    split
    · exact s.ex a o q
    · exact q
  refine ⟨fun a => if a ∈ bs then H a else B a, ⟨fun a o q => ?_, s.len, fun n c hn => ?_, s.nd⟩, ⟨e, List.prefix_refl _, fun _ _ h _ => h, fun _ h => .inl h, fun a h => ?_, fun _ h => h, fun _ _ h => .inr h⟩, fun b m => if_pos m⟩
  · have q' : (if a ∈ bs then H a else B a) = some o := q
    split at q'
    · exact q'
    · exact s.ex a o q'
  · obtain ⟨a, o, h1, h2, h3, h4⟩ := s.cell n c hn
    refine ⟨a, o, h1, ?_, h3, h4.mono e (List.prefix_refl _)⟩
    show (if a ∈ bs then H a else B a) = _
    rw [if_neg, h2]
    intro m
    obtain ⟨vs, q⟩ := hb a m
    rw [h3] at q
    exact h4.notup vs (Option.some.inj q)
  · have h' : (if a ∈ bs then H a else B a) ≠ none := h
    by_cases m : a ∈ bs
    · exact .inr (.inr (hb a m))
    · rw [if_neg m] at h'
      exact .inl h'
/-- an object that H has beside B is taken to stand for good -/
theorem SRc.keep {p : Addr} {o : HO} (s : SRc K B H th mu) (h : H p = some o) (hB : B p = none) (hp : p ∉ th) : SRc K (upd B p o) H th mu where
  ex := fun a u q => by
    by_cases z : a = p
    · subst z; rw [upd_same] at q; rw [h]; exact q
    · rw [upd_ne z] at q; exact s.ex a u q
  len := s.len
  cell := fun n c hn => by
    obtain ⟨a, u, h1, h2, h3, h4⟩ := s.cell n c hn
    have ne : a ≠ p := fun z => hp (z ▸ List.mem_of_getElem? h1)
    exact ⟨a, u, h1, by rw [upd_ne ne]; exact h2, h3, h4.mono (Ex.new hB) (List.prefix_refl _)⟩
  nd := s.nd
end
end Lin

/-! Lin, part X: rules of values that the layer lacks: sum, max, min of a tuple; list + list where they may be read. -/
namespace Lin
open PySem PySem.Spec PyProof.Rows L2

section
variable {prog : Program} {w : World} {A : Around} {E : Value → Shared → Prop} {s : Shared} {l : Addr} {xs : Array (Int × Tok)}
/-- what the walk of a tuple leaves -/
theorem iterT {Q : Value → Shared → Prop} (hl : s.heap.IsTuple l (intItems xs))
    (h : ∀ s2 : Shared, s2 = { s with heap := s.heap.push { cls := .type "tuple_iterator", data := .fields #[.ref l, .int 0 0] } } →
      (s2.heap.IsTupleIter s.heap.objs.size l 0 ∧ s2.heap.IsTuple l (intItems xs)) → (∀ b ∈ [s.heap.objs.size, l], b < s2.heap.objs.size) → l ≠ s.heap.objs.size →
      (∀ h' : Heap, (∀ b o, b ∉ [s.heap.objs.size] → s2.heap.get? b = some o → h'.get? b = some o) → ∀ b o, s.heap.get? b = some o → h'.get? b = some o) → Q (.ref s.heap.objs.size) s2) :
    wpAny (model prog w) A (pyIter (.ref l)) Q E s := by
  have lt : l < s.heap.objs.size := by obtain ⟨_, e, _⟩ := hl; exact Heap.lt_size e
  refine wpAny_pyIter_tuple hl (h _ rfl ⟨⟨_, Heap.get?_push_size _ rfl, rfl, rfl⟩, hl.push _⟩ (fun b hb => ?_) (Nat.ne_of_lt lt) fun h' hk b o e => ?_)
  · have hs : (s.heap.push { cls := .type "tuple_iterator", data := .fields #[.ref l, .int 0 0] }).objs.size = s.heap.objs.size + 1 := Heap.size_push ..
    show b < (s.heap.push { cls := .type "tuple_iterator", data := .fields #[.ref l, .int 0 0] }).objs.size
    rw [hs]
    simp only [List.mem_cons, List.not_mem_nil, or_false] at hb
    rcases hb with e | e
    · rw [e]; exact Nat.lt_succ_self _
    · rw [e]; exact Nat.lt_succ_of_lt lt
  · exact hk b o (fun z => Nat.ne_of_lt (Heap.lt_size e) (by simpa using z)) (Heap.get?_push_of_some _ e)
theorem sumT {Q : Value → Shared → Prop} (hh : A.handled = none) (hl : s.heap.IsTuple l (intItems xs))
    (h : ∀ h' tk t', (∀ b o, s.heap.get? b = some o → h'.get? b = some o) → Q (.int (preSum (numAt xs) xs.size) t') { s with heap := h', toks := tk }) : wpAny (model prog w) A (call (.builtin "sum") [.ref l]) Q E s := by
  refine call_sum_walkG (iterT hl fun s2 e st hf hI kk => ?_)
  subst e
  refine ⟨_, _, _, _, _, _, numAt xs, rfl, Walks.tuple (A := A.in1) hh _ l hI (intItems xs), st, hf, (fun _ _ => intItems_at), fun h' tk t' hk => ?_⟩
  have q := h h' tk t' (kk h' hk)
  simpa [intItems] using q
theorem maxT {Q : Value → Shared → Prop} (hh : A.handled = none) (hl : s.heap.IsTuple l (intItems xs)) (hne : 0 < xs.size)
    (h : ∀ v h' tk, (intItems xs)[argBest (fun i j => decide (numAt xs i > numAt xs j)) (xs.size - 1)]? = some v → (∀ b o, s.heap.get? b = some o → h'.get? b = some o) → Q v { s with heap := h', toks := tk }) :
    wpAny (model prog w) A (call (.builtin "max") [.ref l]) Q E s := by
  refine call_max_walk (iterT hl fun s2 e st hf hI kk => ?_)
  subst e
  refine ⟨_, _, _, _, _, _, _, rfl, Walks.tuple (A := A.in1) hh _ l hI (intItems xs), st, hf, by simpa [intItems] using hne, CmpOf.ints_gt (numAt xs) (fun _ _ => intItems_at), fun v h' tk hP hk => ?_⟩
  exact h v h' tk (by simpa [intItems] using hP) (kk h' hk)
theorem minT {Q : Value → Shared → Prop} (hh : A.handled = none) (hl : s.heap.IsTuple l (intItems xs)) (hne : 0 < xs.size)
    (h : ∀ v h' tk, (intItems xs)[argBest (fun i j => decide (numAt xs i < numAt xs j)) (xs.size - 1)]? = some v → (∀ b o, s.heap.get? b = some o → h'.get? b = some o) → Q v { s with heap := h', toks := tk }) :
    wpAny (model prog w) A (call (.builtin "min") [.ref l]) Q E s := by
  refine call_min_walk (iterT hl fun s2 e st hf hI kk => ?_)
  subst e
  refine ⟨_, _, _, _, _, _, _, rfl, Walks.tuple (A := A.in1) hh _ l hI (intItems xs), st, hf, by simpa [intItems] using hne, CmpOf.ints_lt (numAt xs) (fun _ _ => intItems_at), fun v h' tk hP hk => ?_⟩
  exact h v h' tk (by simpa [intItems] using hP) (kk h' hk)
end
section
variable {X : Cx}
def rSumT (K : PySem.W.Frag) : List V → Hp → VK → Prop := fun vs H Q => ∃ (a : Addr) (ns : List Int), vs = [V.ref a] ∧ SqT K H a (ns.map V.int) ∧ Q (.int ns.sum) H
def rMaxT (K : PySem.W.Frag) : List V → Hp → VK → Prop := fun vs H Q => ∃ (a : Addr) (ns : List Int), vs = [V.ref a] ∧ SqT K H a (ns.map V.int) ∧ 0 < ns.length ∧ ∀ m, m ∈ ns → (∀ y, y ∈ ns → y ≤ m) → Q (.int m) H
def rMinT (K : PySem.W.Frag) : List V → Hp → VK → Prop := fun vs H Q => ∃ (a : Addr) (ns : List Int), vs = [V.ref a] ∧ SqT K H a (ns.map V.int) ∧ 0 < ns.length ∧ ∀ m, m ∈ ns → (∀ y, y ∈ ns → m ≤ y) → Q (.int m) H
theorem tup_isTuple {h : Heap} {a : Addr} {its : Array Value} (p : IsTup h a its) : h.IsTuple a its := p
theorem cr_sumT (hc : X.calm = true) : CallR X (.builtin "sum") (rSumT X.K) := by
  intro pins s sg H vs us Q I r h
  obtain ⟨a, ns, rfl, hs, q⟩ := h
  obtain ⟨its, rv, hl, _⟩ := I.tuple hs
  rw [Vals.ref1 r]
  have hi := rv.ints
  obtain ⟨xs, e⟩ := hi.allInts.items
  have hn : numsOf (intItems xs).toList = ns := by rw [← e]; exact hi.numsOf
  rw [nums_intItems] at hn
  rw [e] at hl
  refine sumT (I.ok.hd hc) (tup_isTuple hl) fun h' tk t' hk => ?_
  rw [preSum_eq, List.take_of_length_le (by simp), hn]
  exact ⟨.int _, H, I.kept hk, ⟨_, rfl⟩, q⟩
theorem cr_maxT (hc : X.calm = true) : CallR X (.builtin "max") (rMaxT X.K) := by
  intro pins s sg H vs us Q I r h
  obtain ⟨a, ns, rfl, hs, hne, q⟩ := h
  obtain ⟨its, rv, hl, _⟩ := I.tuple hs
  rw [Vals.ref1 r]
  have hi := rv.ints
  obtain ⟨xs, e⟩ := hi.allInts.items
  have hn : numsOf (intItems xs).toList = ns := by rw [← e]; exact hi.numsOf
  rw [nums_intItems] at hn
  subst hn
  rw [e] at hl
  have hz : 0 < xs.size := by simpa using hne
  refine maxT (I.ok.hd hc) (tup_isTuple hl) hz fun v h' tk hv hk => ?_
  obtain ⟨t, rfl⟩ := intItems_at hv
  obtain ⟨h1, h2⟩ := argBest_gt (numAt xs) (xs.size - 1)
  refine ⟨.int _, H, I.kept hk, ⟨_, rfl⟩, q _ ?_ fun y hy => ?_⟩
  · rw [numAt_eq]
    exact PySem.getD_mem (by rw [List.length_map, Array.length_toList]; omega)
  · obtain ⟨j, hj, rfl⟩ := mem_getD hy
    rw [List.length_map, Array.length_toList] at hj
    rw [← numAt_eq]
    exact h2 j (by omega)
theorem cr_minT (hc : X.calm = true) : CallR X (.builtin "min") (rMinT X.K) := by
  intro pins s sg H vs us Q I r h
  obtain ⟨a, ns, rfl, hs, hne, q⟩ := h
  obtain ⟨its, rv, hl, _⟩ := I.tuple hs
  rw [Vals.ref1 r]
  have hi := rv.ints
  obtain ⟨xs, e⟩ := hi.allInts.items
  have hn : numsOf (intItems xs).toList = ns := by rw [← e]; exact hi.numsOf
  rw [nums_intItems] at hn
  subst hn
  rw [e] at hl
  have hz : 0 < xs.size := by simpa using hne
  refine minT (I.ok.hd hc) (tup_isTuple hl) hz fun v h' tk hv hk => ?_
  obtain ⟨t, rfl⟩ := intItems_at hv
  obtain ⟨h1, h2⟩ := argBest_lt (numAt xs) (xs.size - 1)
  refine ⟨.int _, H, I.kept hk, ⟨_, rfl⟩, q _ ?_ fun y hy => ?_⟩
  · rw [numAt_eq]
    exact PySem.getD_mem (by rw [List.length_map, Array.length_toList]; omega)
  · obtain ⟨j, hj, rfl⟩ := mem_getD hy
    rw [List.length_map, Array.length_toList] at hj
    rw [← numAt_eq]
    exact h2 j (by omega)
/-- list + list, both to be read -/
def rCatL (K : PySem.W.Frag) : R2 := fun x y H Q => ∃ l b xs zs, x = .ref l ∧ y = .ref b ∧ SqL K H l xs ∧ SqL K H b zs ∧ xs.length + zs.length ≤ sizeLine ∧ ∀ p, H p = none → Q (.ref p) (upd H p (.lst (xs ++ zs)))
theorem op_catL : OpR X (binaryOp .Add) (rCatL X.K) := by
  intro pins s sg H x y v u Q I rx ry h
  obtain ⟨l, b, xs, zs, rfl, rfl, hl, hb, hz, q⟩ := h
  cases rx
  cases ry
  obtain ⟨its, r1, p1, _⟩ := I.list hl
  obtain ⟨its2, r2, p2, _⟩ := I.list hb
  obtain ⟨⟨cls, dd, data, sl⟩, ho, hc, n, hd⟩ := p1.isList
  obtain ⟨⟨cls2, dd2, data2, sl2⟩, ho2, hc2, n2, hd2⟩ := p2.isList
  simp only at hc hd hc2 hd2
  subst hc hd hc2 hd2
  have l1 := r1.length
  have l2 := r2.length
  have e : its.toArray ++ its2.toArray = (its ++ its2).toArray := by simp
  refine concat_meets ⟨_, ho, rfl⟩ ⟨_, ho2, rfl⟩ noFill_list_add seq_list_add PySem.F.slot_list_add PySem.F.entry_list_add (PySem.F.args_list_add_2 _ _)
    (list_addW l b its.toArray its2.toArray n n2 dd dd2 sl sl2 (by rw [List.size_toArray, List.size_toArray]; omega)) ⟨ho, ho2, ?_⟩
  rw [e]
  exact ⟨.ref _, _, I.lnew (t' := s.toks) (r1.append r2) (by rw [List.length_append]; omega), rfl, q _ I.fresh⟩
end
end Lin

set_option maxHeartbeats 4000000
/-! Lin, part Y: more value rules: sorted of data, a tuple times a small number. -/
namespace Lin
open PySem PySem.Spec PyProof.Rows L2

/-! ### sorted, of what reads as data -/
abbrev VP := V × PyData
def vpLe : VP → VP → Bool := PySem.W.dataLe false (fun b : VP => b.2)
def rSortedD (K : PySem.W.Frag) : List V → Hp → VK → Prop := fun vs H Q => ∃ (a : Addr) (bs : List VP), vs = [V.ref a] ∧ SqL K H a (bs.map (·.1)) ∧ (∀ b ∈ bs, Dp K H b.1 b.2) ∧ PySem.W.AllAlike (bs.map (·.2)) ∧ PySem.W.Sortable (bs.map (·.2)) ∧ (∀ b ∈ bs, b.2.depth ≤ 60) ∧
  ∀ p, H p = none → Q (.ref p) (upd H p (.lst ((bs.mergeSort vpLe).map (·.1))))
theorem vp_each : ∀ {bs : List VP} {us : List Value}, Vals (bs.map (·.1)) us → PySem.W.EachIs (fun u (b : VP) => RelV b.1 u) us bs
  | [], us, r => by cases r; exact .nil
  | b :: bs, us, r => by
    cases r with
    | cons r t => exact .cons r (vp_each t)
theorem vp_vals : ∀ {bs : List VP} {us : List Value}, PySem.W.EachIs (fun u (b : VP) => RelV b.1 u) us bs → Vals (bs.map (·.1)) us
  | _, _, .nil => .nil
  | _, _, .cons r t => .cons r (vp_vals t)
theorem each_and {α β : Type} {R S : α → β → Prop} {as : List α} {bs : List β} (h : PySem.W.EachIs R as bs) (hs : ∀ a b, b ∈ bs → R a b → S a b) : PySem.W.EachIs S as bs := by
  induction h with
  | nil => exact .nil
  | cons r t ih => exact .cons (hs _ _ List.mem_cons_self r) (ih fun a b hb => hs a b (List.mem_cons_of_mem _ hb))
section
variable {X : Cx}
theorem cr_sortedD (hu : X.A.units + 64 < cLine) : CallR X (.builtin "sorted") (rSortedD X.K) := by
  intro pins s sg H vs us Q I r hyp
  obtain ⟨a, bs, rfl, hseq, hdp, hal, hso, hdep, q⟩ := hyp
  obtain ⟨its, rv, hl, hz⟩ := I.list hseq
  rw [Vals.ref1 r]
  have e := vp_each rv
  have er := each_and (S := fun u (b : VP) => ∃ as, Reads s.heap u b.2 as) e fun u b hb hr => Dp.reads I b.2 b.1 u (hdp b hb) hr
  refine PySem.W.sorted_data (enc := fun b : VP => b.2) (R := fun u (b : VP) => RelV b.1 u) hl.isList e er hal hso (by rw [List.length_map] at hz; exact hz) (fun b hb => by have := hdep b hb; omega) fun out h1 h2 => ?_
  obtain ⟨nn, hput⟩ := PyProof.Rows.sortedAll_at s.heap its out.toArray
  have hlen : ((bs.mergeSort vpLe).map (·.1)).length ≤ sizeLine := by
    rw [List.length_map, List.length_mergeSort]
    rw [List.length_map] at hz
    exact hz
  exact ⟨.ref _, upd H (s.heap.objs.size + 1) (.lst ((bs.mergeSort vpLe).map (·.1))), I.laid (t' := s.toks) (fun _ _ w => PyProof.Rows.sortedAll_old w) (Nat.le_succ _) ⟨hlen, out, nn, vp_vals h2, hput⟩, rfl, q _ (I.hok.fresh (Nat.le_succ _))⟩
end

/-! ### a tuple times 0 or 1 -/
theorem tuple_mul_one (l : Addr) (items : Array Value) (n : Nat) (dd : Option Addr) (sl : Array (Option Value)) (u : Tok) :
    Meets (Builtin.«tuple.__mul__» ⟨[.ref l, .int 1 u], []⟩) (fun _ R s => s.heap.get? l = some { cls := .type "tuple", dict := dd, data := .seq items n, slots := sl } ∧ R (.ok (.ret (Value.ref l))) s) :=
  .of_wp fun prog w A R s h => by
    obtain ⟨hp, g, d, tk, os⟩ := s
    obtain ⟨hl, h⟩ := h
    have f1 := AutoSeq1.idx_int
    have c1 : (items.isEmpty || (1 : Int) == 1) = true := by simp
    wp_walk using wpAny_loadPart' hl
    repeat (first
      | (refine wpAny_ite_true (decide_eq_true c1) ?_; wp_walk using wpAny_loadPart' hl)
      | (refine wpAny_ite_false (decide_eq_false (by decide)) ?_; wp_walk using wpAny_loadPart' hl))
    exact ⟨_, rfl, h⟩
theorem tuple_mul_none (l : Addr) (items : Array Value) (n : Nat) (dd : Option Addr) (sl : Array (Option Value)) (u : Tok) (c1 : (items.isEmpty || (0 : Int) == 1) = false) :
    Meets (Builtin.«tuple.__mul__» ⟨[.ref l, .int 0 u], []⟩) (fun _ R s => s.heap.get? l = some { cls := .type "tuple", dict := dd, data := .seq items n, slots := sl } ∧
      R (.ok (.ret (Value.ref s.heap.objs.size))) { s with heap := s.heap.push { cls := Value.type "tuple", data := Data.seq #[] }, toks := s.toks }) :=
  .of_wp fun prog w A R s h => by
    obtain ⟨hp, g, d, tk, os⟩ := s
    obtain ⟨hl, h⟩ := h
    have f1 := AutoSeq1.idx_int
    have c2 : (decide ((0 : Int) ≤ 0) || items.isEmpty) = true := by simp
    have c0 : (decide ((0 : Int) < -(2 ^ 63)) || decide ((0 : Int) ≥ 2 ^ 63)) = false := by decide
    wp_walk using wpAny_loadPart' hl
    repeat (first
      | (refine wpAny_ite_false (decide_eq_false (by rw [c0]; exact Bool.false_ne_true)) ?_; wp_walk using wpAny_loadPart' hl)
      | (refine wpAny_ite_false (decide_eq_false (by rw [c1]; exact Bool.false_ne_true)) ?_; wp_walk using wpAny_loadPart' hl)
      | (refine wpAny_ite_true (decide_eq_true c2) ?_; wp_walk using wpAny_loadPart' hl))
    exact ⟨_, rfl, h⟩
/-- t * 0 and t * 1, t not empty -/
def rRep01 (K : PySem.W.Frag) : R2 := fun x y H Q => ∃ l k xs, x = .ref l ∧ y = .int k ∧ SqT K H l xs ∧ xs ≠ [] ∧ ((k = 1 ∧ Q (.ref l) H) ∨ (k = 0 ∧ ∀ p, H p = none → Q (.ref p) (upd H p (.tup []))))
section
variable {X : Cx}
theorem op_rep01 : OpR X (binaryOp .Mult) (rRep01 X.K) := by
  intro pins s sg H x y v u Q I rx ry h
  obtain ⟨l, k, xs, rfl, rfl, hT, hne, hk⟩ := h
  cases rx
  obtain ⟨t, rfl⟩ := ry
  obtain ⟨its, r, ⟨⟨cls, dd, data, sl⟩, ho, hc, n, hd⟩, hs⟩ := I.tuple hT
  simp only at hc hd
  subst hc hd
  have hle : its.length = xs.length := r.length.symm
  have hi : its.toArray.isEmpty = false := by
    cases its with
    | nil => exact absurd (List.eq_nil_of_length_eq_zero hle.symm) hne
    | cons a b => rfl
  rcases hk with ⟨rfl, q⟩ | ⟨rfl, q⟩
  · refine wpAny_binaryOp_repeat_ref (T := "tuple") (U := "int") (by decide) ⟨_, ho, rfl⟩ (fun s' => typeIs_int s' 1 t) noFill_tuple_mul PySem.F.fills_int_mul PySem.F.slot_int_rmul repeat_tuple PySem.F.slot_int_index.lookup
      (call_meets PySem.F.slot_int_rmul (typeIs_int s 1 t) PySem.F.entry_int_rmul (PySem.F.args_int_rmul_2 _ _) (int_rmul_tuple 1 t l its.toArray n dd sl)
        ⟨ho, rfl, ⟨_, ho, rfl⟩, call_meets PySem.F.slot_tuple_mul ⟨_, ho, rfl⟩ PySem.F.entry_tuple_mul (PySem.F.args_tuple_mul_2 _ _) (tuple_mul_one l its.toArray n dd sl t) ⟨ho, ?_⟩⟩)
    exact ⟨.ref l, H, I, rfl, q⟩
  · refine wpAny_binaryOp_repeat_ref (T := "tuple") (U := "int") (by decide) ⟨_, ho, rfl⟩ (fun s' => typeIs_int s' 0 t) noFill_tuple_mul PySem.F.fills_int_mul PySem.F.slot_int_rmul repeat_tuple PySem.F.slot_int_index.lookup
      (call_meets PySem.F.slot_int_rmul (typeIs_int s 0 t) PySem.F.entry_int_rmul (PySem.F.args_int_rmul_2 _ _) (int_rmul_tuple 0 t l its.toArray n dd sl)
        ⟨ho, rfl, ⟨_, ho, rfl⟩, call_meets PySem.F.slot_tuple_mul ⟨_, ho, rfl⟩ PySem.F.entry_tuple_mul (PySem.F.args_tuple_mul_2 _ _) (tuple_mul_none l its.toArray n dd sl t (by rw [hi]; decide)) ⟨ho, ?_⟩⟩)
    exact ⟨.ref _, _, I.laid (t' := s.toks) (o := .tup []) (fun b ob e => Heap.get?_push_of_some _ e) (Nat.le_refl _) ⟨Nat.zero_le _, _, .nil, IsTup.new _ _⟩, rfl, q _ (I.hok.fresh (Nat.le_refl _))⟩
end
end Lin

set_option maxHeartbeats 4000000
/-! Lin, part Y2: t[::-1]; set of a tuple of numbers, sorted. -/
namespace Lin
open PySem PySem.Spec PyProof.Rows L2
section
variable {prog : Program} {w : World} {A : Around} {E : Value → Shared → Prop} {s : Shared}
theorem adj_back (n : Nat) : Builtin.Slice.sliceAdjust none none (-1) (n : Int) = ((n : Int) - 1, -1) := by
  unfold Builtin.Slice.sliceAdjust
  simp
theorem places_back (n : Nat) : Builtin.Slice.slicePlaces ((n : Int) - 1) (-1) (-1) = n := by
  unfold Builtin.Slice.slicePlaces
  simp
  omega
theorem applied_back {sl : Addr} {tk : Tok} {n : Nat} {Q : Int × Int × Nat → Shared → Prop} (hs : s.heap.IsSliceOf sl .none .none (.int (-1) tk)) (h : Q ((n : Int) - 1, -1, n) s) :
    wpAny (model prog w) A (Builtin.Slice.sliceApplied (.ref sl) (pure (n : Int))) Q E s := by
  obtain ⟨ob, hob, hcl, hdat⟩ := id hs
  unfold Builtin.Slice.sliceApplied Builtin.Slice.sliceFields
  refine wpAny_bind (wpAny_bind (wpAny_field hob hdat (x := .none) rfl (wpAny_bind (wpAny_field hob hdat (x := .none) rfl (wpAny_bind (wpAny_field hob hdat (x := .int (-1) tk) rfl (wpAny_pure ?_)))))))
  refine wpAny_bind (slicePart_int ?_)
  show wpAny _ _ (if ((-1 : Int) == 0) = true then _ else _) _ _ s
  rw [if_neg (by decide)]
  refine wpAny_bind (slicePart_none (wpAny_bind (slicePart_none (wpAny_bind (wpAny_pure ?_)))))
  show wpAny _ _ (match Builtin.Slice.sliceAdjust none none (-1) (n : Int) with | (lo, hi) => pure (lo, (-1 : Int), Builtin.Slice.slicePlaces lo hi (-1))) _ _ s
  rw [adj_back n]
  show wpAny _ _ (pure ((n : Int) - 1, (-1 : Int), Builtin.Slice.slicePlaces ((n : Int) - 1) (-1) (-1))) _ _ s
  rw [places_back]
  exact wpAny_pure h
theorem pick_back (xs : Array Value) : ((List.range xs.size).filterMap fun (m : Nat) => xs[(((xs.size : Nat) : Int) - 1 + (m : Int) * (-1)).toNat]?).toArray = xs.toList.reverse.toArray := by
  congr 1
  apply List.ext_getElem?
  intro i
  by_cases hi : i < xs.size
  · have e : ((List.range xs.size).filterMap fun (m : Nat) => xs[(((xs.size : Nat) : Int) - 1 + (m : Int) * (-1)).toNat]?) = (List.range xs.size).map fun m => (xs[xs.size - 1 - m]?).getD .none := by
      have key : ∀ l : List Nat, (∀ m ∈ l, m < xs.size) → (l.filterMap fun (m : Nat) => xs[(((xs.size : Nat) : Int) - 1 + (m : Int) * (-1)).toNat]?) = l.map fun m => (xs[xs.size - 1 - m]?).getD .none := by
        intro l
        induction l with
        | nil => intro _; rfl
        | cons m l ih =>
          intro hm
          have hm' := hm m List.mem_cons_self
          have e2 : (((xs.size : Nat) : Int) - 1 + (m : Int) * (-1)).toNat = xs.size - 1 - m := by omega
          rw [List.filterMap_cons, e2, Array.getElem?_eq_getElem (by omega), List.map_cons, Array.getElem?_eq_getElem (by omega), ← ih fun k hk => hm k (List.mem_cons_of_mem _ hk)]
          rfl
      exact key _ fun m hm => List.mem_range.mp hm
    rw [e, List.getElem?_map, List.getElem?_range hi, List.getElem?_reverse (by rw [Array.length_toList]; exact hi), Array.length_toList, Array.getElem?_toList]
    rw [Option.map_some, Array.getElem?_eq_getElem (by omega)]
    rfl
  · rw [List.getElem?_eq_none (Nat.le_trans (List.length_filterMap_le _ _) (by rw [List.length_range]; omega)), List.getElem?_eq_none (by rw [List.length_reverse, Array.length_toList]; omega)]
theorem get_back {t sl : Addr} {items : Array Value} {tk : Tok} {Q : Value → Shared → Prop} (ht : IsTup s.heap t items) (hs : s.heap.IsSliceOf sl .none .none (.int (-1) tk))
    (h : Q (.ref s.heap.objs.size) { s with heap := s.heap.push { cls := .type "tuple", data := .seq items.toList.reverse.toArray } })
    (hsz : items.size ≤ sizeLine) : wpAny (model prog w) A (getItem (.ref t) (.ref sl)) Q E s := by
  have htake : sizeOk (.seq items.toList.reverse.toArray) := by
    show items.toList.reverse.toArray.size ≤ sizeLine
    rw [List.size_toArray, List.length_reverse, Array.length_toList]
    exact hsz
  obtain ⟨ob, hob, hcl, hdat⟩ := id hs
  have hTy : s.TypeIs (.ref sl) "slice" := ⟨ob, hob, hcl⟩
  unfold getItem
  try with_reducible refine wpAny_holding ?_
  first | refine wpAny_bind (wpAny_pure ?_) | skip
  refine wpAny_bind (wpAny_sequenceKey ht.typeIs (by decide) ?_)
  refine wpAny_bind (wpAny_callSpecial?_slot (name := Str.ofString "__getitem__") ht.typeIs PyProof.Rows.slot_tuple_getitem (wpAny_call_entry PyProof.Rows.slot_tuple_getitem ht.typeIs PyProof.Rows.entry_tuple_getitem ?_ (PyProof.Rows.args_tuple_getitem _ _)))
  show wpAny _ _ (Builtin.Tuple.tupleItemsOf (.ref t) >>= _) _ _ s
  refine wpAny_bind (tupleItemsOf_ ht ?_)
  refine wpAny_bind (wpAny_typeOf hTy ?_)
  rw [if_pos (by decide)]
  refine wpAny_bind (applied_back hs ?_)
  have hno : ¬ (((((items.size : Nat) : Int) - 1) == 0 && (-1 : Int) == 1 && items.size == items.size) = true) := by simp
  show wpAny _ _ (if ((((items.size : Nat) : Int) - 1) == 0 && (-1 : Int) == 1 && items.size == items.size) = true then _ else _) _ _ s
  rw [if_neg hno, pick_back]
  first
    | exact wpAny_bind (m := Builtin.Tuple.tupleExact _) (wpAny_newObj_type (wpAny_pure ⟨_, rfl, wpAny_pure h⟩) htake)
    | exact wpAny_bind (m := Builtin.Tuple.tupleExact _) (wpAny_newObj_type (wpAny_bind (wpAny_pure (wpAny_pure ⟨_, rfl, wpAny_pure h⟩))) htake)
end
/-- t[::-1] -/
def tRevT (K : PySem.W.Frag) (te : TE) : TE := fun sg H Q => te sg H fun x H1 => ∃ a xs, x = .ref a ∧ SqT K H1 a xs ∧ ∀ p, H1 p = none → Q (.ref p) (upd H1 p (.tup xs.reverse))
section
variable {X : Cx}
theorem pe_revT {e : Expr} {te : TE} {j : Nat} {p1 p2 p3 pos : Pos} (he : PE X e te) : PE X (.Subscript e (.Slice none none (some (.UnaryOp .USub (.Constant (.int 1) j p1) p2)) p3) pos) (tRevT X.K te) := by
  refine ⟨fun pins s sg H Q I hyp => ?_⟩
  refine Subscript_ (thn (he.run pins s sg H _ I hyp) fun v s1 ⟨x, H1, I1, r1, q1⟩ => ?_)
  obtain ⟨a, xs, ex, hx, q⟩ := q1
  subst ex
  cases r1
  have hst : PO X (some (.UnaryOp .USub (.Constant (.int 1) j p1) p2)) (tPart (tUn (rU fun i => .int (-i)) (tC (.int 1)))) := po_some (pe_un un_neg pe_int)
  refine wpAny_Slice (thn (po_none.run pins s1 sg H1 (fun o H2 => o = none ∧ H2 = H1) I1 ⟨rfl, rfl⟩) fun vl s2 ⟨l, H2, I2, pl, el, e2⟩ => ?_)
  subst el e2
  refine thn (po_none.run pins s2 sg H2 (fun o H3 => o = none ∧ H3 = H2) I2 ⟨rfl, rfl⟩) fun vu s3 ⟨u, H3, I3, pu, eu, e3⟩ => ?_
  subst eu e3
  refine thn (hst.run pins s3 sg H3 (fun o H4 => o = some (-1) ∧ H4 = H3) I3 ⟨1, rfl, -1, rfl, rfl, rfl⟩) fun vs s4 ⟨o, H4, I4, ps, eo, e4⟩ => ?_
  subst eo e4
  have I5 : Inv X pins sg H4 { s4 with heap := s4.heap.push { cls := .type "slice", data := .fields #[vl, vu, vs] } } := I4.kept (t' := s4.toks) fun b ob w => Heap.get?_push_of_some _ w
  obtain ⟨its, r, ht, hz⟩ := I5.tuple hx
  have hlen := r.length
  have evl : vl = .none := by cases pl; rfl
  have evu : vu = .none := by cases pu; rfl
  obtain ⟨tk, evs⟩ : ∃ tk, vs = .int (-1) tk := by cases ps; exact ⟨_, rfl⟩
  subst evl evu evs
  show wpAny (model X.prog X.w) X.A (subscriptTail e (.Slice none none (some (.UnaryOp .USub (.Constant (.int 1) j p1) p2)) p3) (.ref a) (.ref s4.heap.objs.size)) (EP X pins sg Q) X.xe { s4 with heap := s4.heap.push { cls := .type "slice", data := .fields #[.none, .none, .int (-1) tk] } }
  refine tail_any (ops := [.ref a, .ref s4.heap.objs.size]) ht.typeIs PyProof.Rows.slot_tuple_getitem.lookup ?_ (by with_unfolding_all rfl)
  refine get_back ht (Heap.IsSliceOf.new ..) ?_ (by rw [List.size_toArray]; omega)
  refine ⟨.ref _, _, I5.laid (t' := s4.toks) (o := .tup xs.reverse) (fun b ob w => Heap.get?_push_of_some _ w) (Nat.le_refl _) ?_, rfl, q _ (I5.hok.fresh (Nat.le_refl _))⟩
  exact ⟨by rw [List.length_reverse]; exact hz, _, r.reverse, IsTup.new _ _⟩
end
end Lin

set_option maxHeartbeats 4000000
/-! Lin, part Y3: set of numbers. -/
namespace Lin
open PySem PySem.Spec PyProof.Rows L2

/-- insertion into a strictly rising list -/
def insU (x : Int) : List Int → List Int
  | [] => [x]
  | y :: r => if x < y then x :: y :: r else if x = y then y :: r else y :: insU x r
def setI : List Int → List Int
  | [] => []
  | x :: r => insU x (setI r)
theorem mem_insU {x z : Int} : ∀ {r : List Int}, z ∈ insU x r ↔ z = x ∨ z ∈ r
  | [] => by simp [insU]
  | y :: r => by
    unfold insU
    split
    · simp
    · split
      · rename_i h; subst h; simp
      · rw [List.mem_cons, List.mem_cons, mem_insU (r := r)]
        constructor
        · rintro (h | h | h)
          · exact .inr (.inl h)
          · exact .inl h
          · exact .inr (.inr h)
        · rintro (h | h | h)
          · exact .inr (.inl h)
          · exact .inl h
          · exact .inr (.inr h)
theorem insU_up {x : Int} : ∀ {r : List Int}, r.Pairwise (· < ·) → (insU x r).Pairwise (· < ·)
  | [], _ => by simp [insU]
  | y :: r, h => by
    obtain ⟨h1, h2⟩ := List.pairwise_cons.mp h
    unfold insU
    split
    · rename_i hx
      refine List.pairwise_cons.mpr ⟨fun z hz => ?_, h⟩
      rcases List.mem_cons.mp hz with e | e
      · rw [e]; exact hx
      · have := h1 z e; omega
    · split
      · exact h
      · rename_i n1 n2
        refine List.pairwise_cons.mpr ⟨fun z hz => ?_, insU_up h2⟩
        rcases mem_insU.mp hz with e | e
        · rw [e]; omega
        · exact h1 z e
theorem mem_setI {z : Int} : ∀ {r : List Int}, z ∈ setI r ↔ z ∈ r
  | [] => by simp [setI]
  | x :: r => by
    show z ∈ insU x (setI r) ↔ _
    rw [mem_insU, mem_setI (r := r), List.mem_cons]
theorem setI_up : ∀ r : List Int, (setI r).Pairwise (· < ·)
  | [] => .nil
  | x :: r => insU_up (setI_up r)
theorem up_nodup {l : List Int} (h : l.Pairwise (· < ·)) : l.Nodup := h.imp fun {a b} q => by omega
theorem up_eq : ∀ {l m : List Int}, l.Pairwise (· < ·) → m.Pairwise (· < ·) → (∀ x, x ∈ l ↔ x ∈ m) → l = m
  | [], [], _, _, _ => rfl
  | [], y :: m, _, _, h => absurd ((h y).mpr List.mem_cons_self) (by simp)
  | x :: l, [], _, _, h => absurd ((h x).mp List.mem_cons_self) (by simp)
  | x :: l, y :: m, hl, hm, h => by
    obtain ⟨l1, l2⟩ := List.pairwise_cons.mp hl
    obtain ⟨m1, m2⟩ := List.pairwise_cons.mp hm
    have e : x = y := by
      rcases List.mem_cons.mp ((h x).mp List.mem_cons_self) with q | q
      · exact q
      · rcases List.mem_cons.mp ((h y).mpr List.mem_cons_self) with q' | q'
        · exact q'.symm
        · have := l1 y q'; have := m1 x q; omega
    subst e
    rw [up_eq l2 m2 fun z => ?_]
    have hz := h z
    rw [List.mem_cons, List.mem_cons] at hz
    constructor
    · intro q
      rcases hz.mp (.inr q) with e | e
      · subst e; have := l1 z q; omega
      · exact e
    · intro q
      rcases hz.mpr (.inr q) with e | e
      · subst e; have := m1 z q; omega
      · exact e
/-- set(t), t a tuple of numbers -/
def rSetT (K : PySem.W.Frag) (w : World) : List V → Hp → VK → Prop := fun xs H Q => ∃ (p : Addr) (ns : List Int), xs = [.ref p] ∧ SqT K H p (ns.map V.int) ∧ ns.length ≤ 1000 ∧ ∀ q, H q = none → Q (.ref q) (upd H q (SetO w q (fun j => decide (j ∈ ns)) (setI ns).length))
theorem setR_count {w : World} {h : Heap} {a : Addr} {ns : List Int} {c : Nat} (R : SetR w h a (fun j => decide (j ∈ ns)) c) : c = (setI ns).length := by
  obtain ⟨o, es, ep, t, ho, hex, hdt, g, nd, hm, hb, hf, hn, hr, hl⟩ := R
  have hp : (es.toList.map keyOf).Perm (setI ns) := by
    rw [List.perm_ext_iff_of_nodup nd (up_nodup (setI_up ns))]
    intro k
    rw [← hm k, mem_setI, decide_eq_true_eq]
  rw [← hp.length_eq, List.length_map, Array.length_toList, hn]
section
variable {X : Cx}
theorem cr_setT (hc : X.calm = true) : CallR X (.type "set") (rSetT X.K X.w) := by
  intro pins s sg H xs us Q I r hyp
  obtain ⟨p0, ns, rfl, hq, hl, q⟩ := hyp
  rw [Vals.ref1 r]
  obtain ⟨its, rv, pt, hz⟩ := I.tuple hq
  have hi : IntsAre its.toArray.toList ns := ints_of_vals rv
  refine call_set_tupI ns (I.ok.hd hc) (show s.heap.IsTuple p0 its.toArray from pt) hi (by unfold scanBound; omega) fun h' tk c R1 hcn k => ?_
  have hcc := setR_count R1
  subst hcc
  exact ⟨.ref _, upd H s.heap.objs.size (SetO X.w s.heap.objs.size (fun j => decide (j ∈ ns)) (setI ns).length), I.laid (t' := tk) k (Nat.le_refl _) (setO_new R1), rfl, q _ (I.hok.fresh (Nat.le_refl _))⟩
/-! ### is, is not: something else than a truth value -/
def notBl : V → Bool
  | .int _ => true
  | .non => true
  | .str _ => true
  | .ref _ => true
  | _ => false
theorem rel_notBl {x : V} {v : Value} {b : Bool} (h : notBl x = true) (r : RelV x v) : plainIs v (.bool b) = true ∧ v ≠ .bool b := by
  cases x with
  | int i => obtain ⟨t, rfl⟩ := r; exact ⟨rfl, fun e => nomatch e⟩
  | str i => obtain ⟨t, rfl⟩ := r; exact ⟨rfl, fun e => nomatch e⟩
  | non => cases r; exact ⟨rfl, fun e => nomatch e⟩
  | ref a => cases r; exact ⟨rfl, fun e => nomatch e⟩
  | _ => cases h
def rIsXB : R2 := fun x y H Q => ∃ b : Bool, y = .bl b ∧ notBl x = true ∧ Q (.bl false) H
def rNotXB : R2 := fun x y H Q => ∃ b : Bool, y = .bl b ∧ notBl x = true ∧ Q (.bl true) H
theorem op_isXB : OpR X (compareOp .Is) rIsXB := by
  intro pins s sg H x y v u Q I rx ry hyp
  obtain ⟨b, rfl, hb, q⟩ := hyp
  cases (show u = Value.bool b from ry)
  obtain ⟨h1, h2⟩ := rel_notBl (b := b) hb rx
  exact wpAny_is_other h1 h2 ⟨.bl false, H, I, rfl, q⟩
theorem op_notXB : OpR X (compareOp .IsNot) rNotXB := by
  intro pins s sg H x y v u Q I rx ry hyp
  obtain ⟨b, rfl, hb, q⟩ := hyp
  cases (show u = Value.bool b from ry)
  obtain ⟨h1, h2⟩ := rel_notBl (b := b) hb rx
  exact wpAny_isNot_other h1 h2 ⟨.bl true, H, I, rfl, q⟩
end
end Lin

/-! Lin, part B: the small language and what it computes. -/
namespace Lin
open PySem PySem.Spec PyProof.Rows L2

inductive AOp where | add | sub | mul | fdiv | mod | pow
inductive COp where | eq | ne | lt | le | gt | ge | is | isn | mem | nmem
inductive Bt where | len | sum | max | min | all | abs | tuple | list | sorted | int
inductive Kd where | int | bool | tuple | list | str
/-- targets -/
inductive T where
  | nm (i : Nat) | nil | cons (a r : T) | tup (a : T)
inductive E where
  | var (i : Nat) | int (i : Int) | bl (b : Bool) | non | str (x : Str) | glob (g : Nat)
  | anil | acons (a r : E)
  | tup (as : E) | lst (as : E)
  | op (o : AOp) (a b : E) | neg (a : E) | rep (as n : E)
  | cmp (o : COp) (a b : E) | chain (o p : COp) (a b c : E)
  | and (as : E) | or (as : E) | not (a : E) | ite (c a b : E)
  | ix (a i : E) | slc (a lo hi : E)
  | call (f : Nat) (as : E) | blt (b : Bt) (as : E)
  | lc (own : List (Str × Nat)) (tg : T) (it ifs elt : E)
  | items (a : E) | range1 (a : E) | range2 (a b : E) | zip (a b : E) | enum (a : E)
  | isi (a : E) (k : Kd) | isiT (a : E) (ks : List Kd) | tupR3 (a b : E) | tupR1 (b : E) | lstR1 (b : E) | lstR2 (a b : E)
  | revT (a : E) | sset (a : E) | lzip (a b : E) | dgt (d k z : E)
  | fld (a : E) | meth (o : E) (m : Nat) (as : E) | new (as : E)
inductive S where
  | skip | seq (a b : S)
  | frz (i : Nat)
  | asg (i : Nat) (e : E) | own (i : Nat) (e : E) | ownD (i : Nat) (t : Bool) | asgT (tg : T) (e : E) | par (i j : Nat) (a b : E)
  | setIx (i : Nat) (k e : E) | app (i : Nat) (e : E) | ex (e : E)
  | ite (t : E) (a b : S) | whl (t : E) (b : S) | for_ (tg : T) (it : E) (b : S)
  | ret (e : E) | retN | brk | cont | pass
  | callx (f : Nat) (as : E) | raise (c : Nat)

/-! ### values -/
def ints? : List Dat → Option (List Int)
  | [] => some []
  | .int i :: r => (ints? r).map (i :: ·)
  | _ => none
def bls? : List Dat → Option (List Bool)
  | [] => some []
  | .bl i :: r => (bls? r).map (i :: ·)
  | _ => none
@[simp] theorem ints?_map (ns : List Int) : ints? (ns.map Dat.int) = some ns := by
  induction ns with
  | nil => rfl
  | cons n ns ih => rw [List.map_cons]; show (ints? (ns.map Dat.int)).map (n :: ·) = _; rw [ih]; rfl
theorem ints?_some : ∀ {ds : List Dat} {ns : List Int}, ints? ds = some ns → ds = ns.map Dat.int
  | [], ns, h => by cases h; rfl
  | .int i :: r, ns, h => by
    have h' : (ints? r).map (i :: ·) = some ns := h
    cases q : ints? r with
    | none => rw [q] at h'; cases h'
    | some m => rw [q] at h'; cases h'; rw [ints?_some q]; rfl
  | .non :: _, _, h => by cases h
  | .bl _ :: _, _, h => by cases h
  | .str _ :: _, _, h => by cases h
  | .tup _ :: _, _, h => by cases h
  | .lst _ :: _, _, h => by cases h
  | .ref _ :: _, _, h => by cases h
  | .fn _ :: _, _, h => by cases h
@[simp] theorem bls?_map (ns : List Bool) : bls? (ns.map Dat.bl) = some ns := by
  induction ns with
  | nil => rfl
  | cons n ns ih => rw [List.map_cons]; show (bls? (ns.map Dat.bl)).map (n :: ·) = _; rw [ih]; rfl
theorem bls?_some : ∀ {ds : List Dat} {ns : List Bool}, bls? ds = some ns → ds = ns.map Dat.bl
  | [], ns, h => by cases h; rfl
  | .bl i :: r, ns, h => by
    have h' : (bls? r).map (i :: ·) = some ns := h
    cases q : bls? r with
    | none => rw [q] at h'; cases h'
    | some m => rw [q] at h'; cases h'; rw [bls?_some q]; rfl
  | .non :: _, _, h => by cases h
  | .int _ :: _, _, h => by cases h
  | .str _ :: _, _, h => by cases h
  | .tup _ :: _, _, h => by cases h
  | .lst _ :: _, _, h => by cases h
  | .ref _ :: _, _, h => by cases h
  | .fn _ :: _, _, h => by cases h

mutual
/-- as comparable data; a cell is none -/
def pd : Dat → Option PyData
  | .non => some .none
  | .bl b => some (.bool b)
  | .int i => some (.int i)
  | .str x => if PySem.PyData.strOk x = true then some (.str x) else none
  | .tup xs => (pds xs).map .tuple
  | .lst xs => (pds xs).map .list
  | .ref _ => none
  | .fn _ => none
def pds : List Dat → Option (List PyData)
  | [] => some []
  | d :: ds => match pd d, pds ds with
    | some x, some xs => some (x :: xs)
    | _, _ => none
end
/-- a place in a list of n, as Python counts -/
def place (n : Nat) (i : Int) : Option Nat := if 0 ≤ i then (if i < n then some i.toNat else none) else if 0 ≤ i + n then some (i + n).toNat else none
def at? (ds : List Dat) (i : Int) : Option Dat := match place ds.length i with
  | some j => ds[j]?
  | none => none
/-- xs[lo:hi] -/
def clip (n d : Nat) : Option Int → Nat
  | none => d
  | some v => if v < 0 then (v + (n : Int)).toNat else min v.toNat n
def cut {α : Type} (xs : List α) (lo hi : Option Int) : List α := (xs.drop (clip xs.length 0 lo)).take (clip xs.length xs.length hi - clip xs.length 0 lo)

/-! ### the world of a def -/
inductive Res where
  | ok (d : Dat) (mu : Store) | exc (c : Nat) (mu : Store)
/-- what a def does -/
abbrev Fn := List Dat → Store → Option Res
/-- the defs that are known, the module's int constants -/
structure Gam where
  fn : Nat → Option Fn
  ar : Nat → Nat
  gc : Nat → Option Int
  me : Nat → Option Fn
  ed : Bool
  /-- the defs that take a function, last; the function that this def got; the table of this def's code object: cell, place, its lambdas' name -/
  hf : Nat → Option (Addr → Fn → Fn) := fun _ => none
  hb : Option (Addr × Fn) := none
  tb : Option (Nat × Addr × Str) := none
/-- without calls -/
def Gam.bare (G : Gam) : Gam := { fn := fun _ => none, ar := G.ar, gc := G.gc, me := fun _ => none, ed := G.ed }

/-- a value, or a slot that holds something of its own -/
inductive Hd where
  | dat (d : Dat) | own (i : Nat)
def Env.cell (rho : Env) (i : Nat) : Option Cell := match rho[i]? with
  | some (some (.own c)) => some c
  | _ => none
/-- the items of a list -/
def seqL (rho : Env) (mu : Store) : Hd → Option (List Dat)
  | .dat (.lst ds) => some ds
  | .dat (.ref n) => match mu[n]? with
    | some (.lst ds) => some ds
    | _ => none
  | .own i => match rho.cell i with
    | some (.lst ds) => some ds
    | _ => none
  | _ => none
def seqT : Hd → Option (List Dat)
  | .dat (.tup ds) => some ds
  | _ => none
/-- the items of a list or a tuple -/
def seqA (rho : Env) (mu : Store) (h : Hd) : Option (List Dat) := match h with
  | .dat (.tup ds) => some ds
  | h => seqL rho mu h
def dicOf (rho : Env) (mu : Store) : Hd → Option (Bool × List (Dat × Dat))
  | .dat (.ref n) => match mu[n]? with
    | some (.dic t ds) => some (t, ds)
    | _ => none
  | .own i => match rho.cell i with
    | some (.dic t ds) => some (t, ds)
    | _ => none
  | _ => none
/-- the value that stands for good -/
def Hd.d : Hd → Option Dat
  | .dat d => some d
  | .own _ => none
/-- the datum as it is now -/
def now (rho : Env) (mu : Store) (h : Hd) : Option Dat := match seqL rho mu h with
  | some ds => some (.lst ds)
  | none => h.d
mutual
/-- the same datum -/
def datB : Dat → Dat → Bool
  | .non, .non => true
  | .bl a, .bl b => a == b
  | .int a, .int b => a == b
  | .str a, .str b => decide (a = b)
  | .tup xs, .tup ys => datsB xs ys
  | .lst xs, .lst ys => datsB xs ys
  | .ref a, .ref b => a == b
  | .fn a, .fn b => decide (a = b)
  | _, _ => false
def datsB : List Dat → List Dat → Bool
  | [], [] => true
  | x :: xs, y :: ys => datB x y && datsB xs ys
  | _, _ => false
end
mutual
theorem datB_iff : ∀ {a b : Dat}, datB a b = true ↔ a = b
  | .non, b => by cases b <;> simp [datB]
  | .bl x, b => by cases b <;> simp [datB]
  | .int x, b => by cases b <;> simp [datB]
  | .str x, b => by cases b <;> simp [datB]
  | .tup xs, b => by cases b <;> simp [datB, datsB_iff (as := xs)]
  | .lst xs, b => by cases b <;> simp [datB, datsB_iff (as := xs)]
  | .ref x, b => by cases b <;> simp [datB]
  | .fn x, b => by cases b <;> simp [datB]
theorem datsB_iff : ∀ {as bs : List Dat}, datsB as bs = true ↔ as = bs
  | [], bs => by cases bs <;> simp [datsB]
  | a :: as, bs => by cases bs <;> simp [datsB, datB_iff (a := a), datsB_iff (as := as)]
end
instance : DecidableEq Dat := fun a b => if h : datB a b = true then .isTrue (datB_iff.mp h) else .isFalse fun e => h (datB_iff.mpr e)
/-- a key of a dict: a number, a text; a tuple of such -/
def flatKey : Dat → Bool
  | .int _ => true
  | .str _ => true
  | _ => false
def keyFor (t : Bool) : Dat → Bool
  | .tup ds => t && ds.all flatKey
  | d => !t && flatKey d
def dfind (kvs : List (Dat × Dat)) (k : Dat) : Option Dat := (kvs.find? fun p => decide (p.1 = k)).map (·.2)
def dput (kvs : List (Dat × Dat)) (k d : Dat) : List (Dat × Dat) :=
  if (kvs.any fun p => decide (p.1 = k)) = true then kvs.map (fun p => if p.1 = k then (p.1, d) else p) else kvs ++ [(k, d)]
def cap : Nat := 1000000

def arith (o : AOp) (i j : Int) : Option Int := match o with
  | .add => some (i + j)
  | .sub => some (i - j)
  | .mul => if i.natAbs < 18446744073709551616 ∨ j.natAbs < 18446744073709551616 then some (i * j) else none
  | .fdiv => if 0 < j ∧ j.natAbs < 2 ^ 8000 then some (i / j) else none
  | .mod => if 0 < j then some (i % j) else none
  | .pow => if 0 ≤ j ∧ j ≤ 1000000 ∧ i.natAbs < 18446744073709551616 then some (i ^ j.toNat) else none
def opD (rho : Env) (mu : Store) (o : AOp) (x y : Hd) : Option Dat := match x, y with
  | .dat (.int i), .dat (.int j) => (arith o i j).map .int
  | .dat (.tup xs), .dat (.tup ys) => match o with
    | .add => if xs.length + ys.length ≤ cap then some (.tup (xs ++ ys)) else none
    | _ => none
  | .dat (.tup xs), .dat (.int k) => match o with
    | .mul => if xs ≠ [] ∧ 0 ≤ k ∧ xs.length ≤ 1000 ∧ k ≤ 3000 then some (.tup (List.replicate k.toNat xs).flatten) else none
    | _ => none
  | x, y => match o with
    | .add => match seqL rho mu x, seqL rho mu y with
      | some xs, some ys => if xs.length + ys.length ≤ cap then some (.lst (xs ++ ys)) else none
      | _, _ => none
    | _ => none
def cmpI (o : COp) (i j : Int) : Option Bool := match o with
  | .lt => some (decide (i < j))
  | .le => some (decide (i ≤ j))
  | .gt => some (decide (j < i))
  | .ge => some (decide (j ≤ i))
  | _ => none
def eqD (x y : Dat) : Option Bool := match pd x, pd y with
  | some a, some b => if a.depth ≤ 64 ∧ b.depth ≤ 64 then some (PyData.eqv a b) else none
  | _, _ => none
def isNon : Dat → Bool
  | .non => true
  | _ => false
/-- is: of None, of truth values -/
def isD (x y : Dat) : Option Bool := match x, y with
  | x, .non => some (isNon x)
  | .bl a, .bl b => some (a == b)
  | _, .bl _ => some false
  | _, _ => none
def memD (rho : Env) (mu : Store) (x y : Hd) : Option Bool := match seqA rho mu y with
  | some ds => match x with
    | .dat (.int i) => (ints? ds).map fun ns => decide (i ∈ ns)
    | _ => none
  | none => match dicOf rho mu y, x with
    | some (t, kvs), .dat k => if keyFor t k = true then some (dfind kvs k).isSome else none
    | _, _ => none
def cmpII (o : COp) (x y : Hd) : Option Bool := match x, y with
  | .dat (.int i), .dat (.int j) => cmpI o i j
  | _, _ => none
def cmpD (rho : Env) (mu : Store) (o : COp) (x y : Hd) : Option Bool := match o with
  | .eq => match now rho mu x, now rho mu y with
    | some a, some b => eqD a b
    | _, _ => none
  | .ne => match now rho mu x, now rho mu y with
    | some a, some b => (eqD a b).map (!·)
    | _, _ => none
  | .is => match x.d, y.d with
    | some a, some b => isD a b
    | _, _ => none
  | .isn => match x.d, y.d with
    | some a, some b => (isD a b).map (!·)
    | _, _ => none
  | .mem => memD rho mu x y
  | .nmem => (memD rho mu x y).map (!·)
  | o => cmpII o x y
def kdOf : Dat → Option Kd
  | .int _ => some .int
  | .bl _ => some .bool
  | .tup _ => some .tuple
  | .lst _ => some .list
  | .str _ => some .str
  | _ => none
/-- isinstance -/
def isK (d : Dat) (k : Kd) : Option Bool := match d, k with
  | .int _, .int => some true | .int _, _ => some false
  | .bl _, .bool => some true | .bl _, .int => some true | .bl _, _ => some false
  | .str _, .str => some true | .str _, _ => some false
  | .tup _, .tuple => some true | .tup _, _ => some false
  | .lst _, .list => some true | .lst _, _ => some false
  | .non, _ => some false
  | .ref _, _ => none
  | .fn _, _ => none
/-- isinstance, of several kinds -/
def isKs (d : Dat) : List Kd → Option Bool
  | [] => some false
  | k :: ks => match isK d k with
    | some true => some true
    | some false => isKs d ks
    | none => none
def maxI : List Int → Int
  | [] => 0
  | [x] => x
  | x :: r => max x (maxI r)
def minI : List Int → Int
  | [] => 0
  | [x] => x
  | x :: r => min x (minI r)
/-- insertion into a rising list -/
def insI (x : Int) : List Int → List Int
  | [] => [x]
  | y :: r => if x ≤ y then x :: y :: r else y :: insI x r
def sortI : List Int → List Int
  | [] => []
  | x :: r => insI x (sortI r)
/-- data sorted -/
def pdk (d : Dat) : PyData := (pd d).getD .none
def sortD (ds : List Dat) : List Dat := ds.mergeSort (PySem.W.dataLe false pdk)
def isNeT : PyData → Bool
  | .tuple (_ :: _) => true
  | _ => false
def sortOk (ps : List PyData) : Bool := ps.all (fun p => ps.all fun q => PySem.W.alike p q) && ps.all isNeT && ps.all fun p => decide (p.depth ≤ 60)
def dintK : List (Dat × Dat) → Option (List Int)
  | [] => some []
  | (.int i, _) :: r => (dintK r).map (i :: ·)
  | _ => none
def bltD (rho : Env) (mu : Store) (b : Bt) (xs : List Hd) : Option Dat := match b, xs with
  | .len, [x] => (seqA rho mu x).map fun ds => .int ds.length
  | .sum, [x] => match seqA rho mu x with
    | some ds => (ints? ds).map fun ns => .int ns.sum
    | none => none
  | .max, [x] => match seqA rho mu x with
    | some ds => match ints? ds with
      | some (n :: ns) => some (.int (maxI (n :: ns)))
      | _ => none
    | none => none
  | .min, [x] => match seqA rho mu x with
    | some ds => match ints? ds with
      | some (n :: ns) => some (.int (minI (n :: ns)))
      | _ => none
    | none => none
  | .max, [.dat (.int i), .dat (.int j)] => some (.int (max i j))
  | .min, [.dat (.int i), .dat (.int j)] => some (.int (min i j))
  | .min, [.dat (.int i), .dat (.int j), .dat (.int k)] => some (.int (min (min i j) k))
  | .all, [x] => match seqL rho mu x with
    | some ds => (bls? ds).map fun bs => .bl (bs.all id)
    | none => none
  | .abs, [.dat (.int i)] => some (.int (if i < 0 then -i else i))
  | .int, [.dat (.int i)] => some (.int i)
  | .int, [.dat (.bl k)] => some (.int (if k then 1 else 0))
  | .tuple, [x] => (seqA rho mu x).map .tup
  | .list, [x] => (seqA rho mu x).map .lst
  | .sorted, [x] => match seqL rho mu x with
    | some ds => match ints? ds with
      | some ns => some (.lst ((sortI ns).map .int))
      | none => match pds ds with
        | some ps => if sortOk ps = true then some (.lst (sortD ds)) else none
        | none => none
    | none => match dicOf rho mu x with
      | some (false, kvs) => match dintK kvs with
        | some ns => if ns.length < 64 then some (.lst ((sortI ns).map .int)) else if ns.length ≤ cap then some (.lst ((sortI ns).map .int)) else none
        | none => none
      | some (true, kvs) => match pds (kvs.map (·.1)) with
        | some ps => if sortOk ps = true then some (.lst (sortD (kvs.map (·.1)))) else none
        | none => none
      | _ => none
  | _, _ => none
mutual
def bindT : T → Dat → Env → Option Env
  | .nm i, d, rho => some (rho.set i (some (.dat d)))
  | .tup a, .tup ds, rho => bindTs a ds rho
  | _, _, _ => none
def bindTs : T → List Dat → Env → Option Env
  | .nil, [], rho => some rho
  | .cons a r, d :: ds, rho => match bindT a d rho with
    | some rho' => bindTs r ds rho'
    | none => none
  | _, _, _ => none
end
def wipeE (rho : Env) : List Nat → Env
  | [] => rho
  | v :: vs => (wipeE rho vs).set v none
def zipD : List Dat → List Dat → List Dat
  | x :: xs, y :: ys => .tup [x, y] :: zipD xs ys
  | _, _ => []
def enumD : Nat → List Dat → List Dat
  | _, [] => []
  | n, x :: xs => .tup [.int n, x] :: enumD (n + 1) xs
def rangeD (lo : Int) (n : Nat) : List Dat := (List.range n).map fun i => .int (lo + (i : Nat))
def smallI (i : Int) : Prop := -4611686018427387904 ≤ i ∧ i < 4611686018427387904
instance (i : Int) : Decidable (smallI i) := by unfold smallI; infer_instance
/-- a comprehension's turns -/
def lcGo (bind : Dat → Option Env) (tst : Env → Store → Option (Bool × Store)) (elt : Env → Store → Option (Dat × Store)) : List Dat → Store → Option (List Dat × Store)
  | [], mu => some ([], mu)
  | x :: xs, mu => match bind x with
    | none => none
    | some rho => match tst rho mu with
      | none => none
      | some (false, mu1) => lcGo bind tst elt xs mu1
      | some (true, mu1) => match elt rho mu1 with
        | none => none
        | some (d, mu2) => match lcGo bind tst elt xs mu2 with
          | none => none
          | some (ds, mu3) => some (d :: ds, mu3)

/-! ### composition -/
def bd {α β : Type} (x : Option (α × Store)) (k : α → Store → Option (β × Store)) : Option (β × Store) := match x with
  | some (a, mu) => k a mu
  | none => none
@[simp] theorem bd_some {α β : Type} (a : α) (mu : Store) (k : α → Store → Option (β × Store)) : bd (some (a, mu)) k = k a mu := rfl
theorem bd_inv {α β : Type} {x : Option (α × Store)} {k : α → Store → Option (β × Store)} {r : β × Store} (h : bd x k = some r) : ∃ a mu, x = some (a, mu) ∧ k a mu = some r := by
  cases x with
  | none => cases h
  | some p => exact ⟨p.1, p.2, rfl, h⟩
/-- the value stands for good -/
def bdD {β : Type} (x : Option (Hd × Store)) (k : Dat → Store → Option (β × Store)) : Option (β × Store) := match x with
  | some (.dat d, mu) => k d mu
  | _ => none
@[simp] theorem bdD_some {β : Type} (a : Dat) (mu : Store) (k : Dat → Store → Option (β × Store)) : bdD (some (.dat a, mu)) k = k a mu := rfl
theorem bdD_inv {β : Type} {x : Option (Hd × Store)} {k : Dat → Store → Option (β × Store)} {r : β × Store} (h : bdD x k = some r) : ∃ a mu, x = some (.dat a, mu) ∧ k a mu = some r := by
  cases x with
  | none => cases h
  | some p =>
    obtain ⟨q, mu⟩ := p
    cases q with
    | dat d => exact ⟨d, mu, rfl, h⟩
    | own i => cases h
def dn (o : Option Dat) (mu : Store) : Option (Hd × Store) := match o with
  | some d => some (.dat d, mu)
  | none => none
@[simp] theorem dn_some (d : Dat) (mu : Store) : dn (some d) mu = some (.dat d, mu) := rfl
theorem dn_inv {o : Option Dat} {mu : Store} {r : Hd × Store} (h : dn o mu = some r) : ∃ d, o = some d ∧ r = (.dat d, mu) := by
  cases o with
  | none => cases h
  | some d => exact ⟨d, rfl, (Option.some.inj h).symm⟩
def isB : Dat → Option Bool
  | .bl b => some b
  | _ => none
def isI : Dat → Option Int
  | .int b => some b
  | _ => none
def dget (t : Bool) (kvs : List (Dat × Dat)) (k : Dat) : Option Dat := if keyFor t k = true then dfind kvs k else none
def ixD (rho : Env) (mu : Store) (x : Hd) (k : Dat) : Option Dat := match seqA rho mu x, k with
  | some ds, .int i => at? ds i
  | none, k => match dicOf rho mu x with
    | some (t, kvs) => dget t kvs k
    | none => none
  | _, _ => none
/-- d.get(k, z) -/
def dgetZ (rho : Env) (mu : Store) (x : Hd) (k z : Dat) : Option Dat := match dicOf rho mu x with
  | some (t, kvs) => if keyFor t k = true then some ((dfind kvs k).getD z) else none
  | none => none
def slcD (rho : Env) (mu : Store) (x : Hd) (l h : Option Int) : Option Dat := match x with
  | .dat (.tup ds) => some (.tup (cut ds l h))
  | x => match seqL rho mu x with
    | some ds => some (.lst (cut ds l h))
    | none => none
def callD (G : Gam) (f : Nat) (ds : List Dat) (mu : Store) : Option (Hd × Store) := if ds.length = G.ar f then match G.fn f with
    | some F => match F ds mu with
      | some (.ok d mu2) => some (.dat d, mu2)
      | _ => none
    | none => none
  else none
/-- self.states -/
def fldD (G : Gam) (mu : Store) : Dat → Option Dat
  | .ref n => match mu[n]? with
    | some (.ins (some m)) => if G.ed = true then some (.ref m) else none
    | _ => none
  | _ => none
def insB (mu : Store) : Dat → Bool
  | .ref n => match mu[n]? with
    | some (.ins _) => true
    | _ => false
  | _ => false
/-- the methods of Editor -/
def mName : Nat → Str
  | 0 => "__init__" | 1 => "state" | 2 => "edit" | 3 => "words" | 4 => "line_starts" | 5 => "set_width" | 6 => "undo" | 7 => "width" | 8 => "laid_out" | _ => ""
def mAr : Nat → Nat
  | 0 => 2 | 2 => 4 | 5 => 2 | _ => 1
def methD (G : Gam) (m : Nat) (ds : List Dat) (mu : Store) : Option (Hd × Store) := if m ≠ 0 ∧ m < 9 ∧ ds.length = mAr m then match G.me m with
    | some F => match F ds mu with
      | some (.ok d mu2) => some (.dat d, mu2)
      | _ => none
    | none => none
  else none
def newD (G : Gam) (ds : List Dat) (mu : Store) : Option (Hd × Store) := if ds.length + 1 = mAr 0 then match G.me 0 with
    | some F => match F (.ref mu.length :: ds) (mu ++ [.ins none]) with
      | some (.ok .non mu2) => some (.dat (.ref mu.length), mu2)
      | _ => none
    | none => none
  else none
/-- range(i, j) as a value -/
def rgD (f : List Dat → Dat) (x y : Dat) : Option Dat := match isI x, isI y with
  | some i, some j => if 0 ≤ i ∧ i ≤ cap ∧ 0 ≤ j ∧ j ≤ cap then some (f (rangeD i (j - i).toNat)) else none
  | _, _ => none
/-- tuple(range(i, j, 2)) -/
def range2D (i j : Int) : List Dat := (List.range (if i < j then ((j - i - 1) / 2 + 1).toNat else 0)).map fun k => .int (i + (k : Nat) * 2)
def rg2D (x y : Dat) : Option Dat := match isI x, isI y with
  | some i, some j => if 0 ≤ i ∧ i ≤ cap ∧ 0 ≤ j ∧ j ≤ cap then some (.tup (range2D i j)) else none
  | _, _ => none
def itemsD : Dat → Option (List Dat)
  | .lst xs => some xs
  | .tup xs => some xs
  | _ => none
def zipX : Dat → Dat → Option (List Dat)
  | .lst xs, .lst ys => some (zipD xs ys)
  | .tup xs, .tup ys => some (zipD xs ys)
  | _, _ => none

mutual
/-- an expression's value, and the store behind it -/
def ev (G : Gam) : E → Env → Store → Option (Hd × Store)
  | .var i, rho, mu => match rho[i]? with
    | some (some (.dat d)) => some (.dat d, mu)
    | some (some (.own _)) => some (.own i, mu)
    | _ => none
  | .int i, _, mu => some (.dat (.int i), mu)
  | .bl b, _, mu => some (.dat (.bl b), mu)
  | .non, _, mu => some (.dat .non, mu)
  | .str x, _, mu => some (.dat (.str x), mu)
  | .glob g, _, mu => dn ((G.gc g).map .int) mu
  | .anil, _, mu => some (.dat .non, mu)
  | .tup as, rho, mu => bd (evA G as rho mu) fun ds mu1 => if ds.length ≤ cap then some (.dat (.tup ds), mu1) else none
  | .lst as, rho, mu => bd (evA G as rho mu) fun ds mu1 => if ds.length ≤ cap then some (.dat (.lst ds), mu1) else none
  | .op o a b, rho, mu => bd (ev G a rho mu) fun x mu1 => bd (ev G b rho mu1) fun y mu2 => dn (opD rho mu2 o x y) mu2
  | .rep as n, rho, mu => bd (evA G as rho mu) fun ds mu1 => bdD (ev G n rho mu1) fun x mu2 => match isI x with
    | some k => if ds.length ≤ cap ∧ 0 ≤ k ∧ k ≤ cap ∧ ds.length * k.toNat ≤ cap then some (.dat (.lst (List.replicate k.toNat ds).flatten), mu2) else none
    | none => none
  | .neg a, rho, mu => bdD (ev G a rho mu) fun x mu1 => dn ((isI x).map fun i => .int (-i)) mu1
  | .cmp o a b, rho, mu => bd (ev G a rho mu) fun x mu1 => bd (ev G b rho mu1) fun y mu2 => dn ((cmpD rho mu2 o x y).map .bl) mu2
  | .chain o p a b c, rho, mu => bd (ev G a rho mu) fun x mu1 => bd (ev G b rho mu1) fun y mu2 => match cmpD rho mu2 o x y with
    | some true => bd (ev G c rho mu2) fun z mu3 => dn ((cmpD rho mu3 p y z).map .bl) mu3
    | some false => some (.dat (.bl false), mu2)
    | none => none
  | .and as, rho, mu => evAnd G as rho mu
  | .or as, rho, mu => evOr G as rho mu
  | .not a, rho, mu => bdD (ev G a rho mu) fun x mu1 => dn ((isB x).map fun b => .bl (!b)) mu1
  | .ite c a b, rho, mu => bdD (ev G c rho mu) fun x mu1 => match isB x with
    | some true => ev G a rho mu1
    | some false => ev G b rho mu1
    | none => none
  | .ix a i, rho, mu => bd (ev G a rho mu) fun x mu1 => bdD (ev G i rho mu1) fun k mu2 => dn (ixD rho mu2 x k) mu2
  | .slc a lo hi, rho, mu => bd (ev G a rho mu) fun x mu1 => bd (evO G lo rho mu1) fun l mu2 => bd (evO G hi rho mu2) fun h mu3 => dn (slcD rho mu3 x l h) mu3
  | .call f as, rho, mu => bd (evA G as rho mu) fun ds mu1 => callD G f ds mu1
  | .blt b as, rho, mu => bd (evHs G as rho mu) fun xs mu1 => dn (bltD rho mu1 b xs) mu1
  | .lc own tg it ifs elt, rho, mu => bd (evI G it rho mu) fun xs mu1 => if xs.length ≤ cap then
      bd (lcGo (fun x => bindT tg x (wipeE rho (own.map (·.2)))) (fun rho' mu' => evTs G ifs rho' mu') (fun rho' mu' => bdD (ev G elt rho' mu') fun d mu2 => some (d, mu2)) xs mu1) fun ds mu2 => some (.dat (.lst ds), mu2)
    else none
  | .tupR3 a b, rho, mu => bdD (ev G a rho mu) fun x mu1 => bdD (ev G b rho mu1) fun y mu2 => dn (rg2D x y) mu2
  | .tupR1 b, rho, mu => bdD (ev G b rho mu) fun y mu2 => dn (rgD .tup (.int 0) y) mu2
  | .lstR1 b, rho, mu => bdD (ev G b rho mu) fun y mu2 => dn (rgD .lst (.int 0) y) mu2
  | .lstR2 a b, rho, mu => bdD (ev G a rho mu) fun x mu1 => bdD (ev G b rho mu1) fun y mu2 => dn (rgD .lst x y) mu2
  | .isi a k, rho, mu => bdD (ev G a rho mu) fun d mu1 => dn ((isK d k).map .bl) mu1
  | .revT a, rho, mu => bdD (ev G a rho mu) fun d mu1 => match d with
    | .tup ds => some (.dat (.tup ds.reverse), mu1)
    | _ => none
  | .sset a, rho, mu => bdD (ev G a rho mu) fun d mu1 => match d with
    | .tup ds => match ints? ds with
      | some ns => if ns.length ≤ 1000 ∧ (setI ns).length < 64 then some (.dat (.lst ((setI ns).map .int)), mu1) else none
      | none => none
    | .lst ds => match ints? ds with
      | some ns => if ns.length ≤ 1000 ∧ (setI ns).length < 64 then some (.dat (.lst ((setI ns).map .int)), mu1) else none
      | none => none
    | _ => none
  | .lzip a b, rho, mu => bdD (ev G a rho mu) fun x mu1 => bdD (ev G b rho mu1) fun y mu2 => match x, y with
    | .tup xs, .tup ys => if xs.length ≤ cap then some (.dat (.lst (zipD xs ys)), mu2) else none
    | _, _ => none
  | .fld a, rho, mu => bdD (ev G a rho mu) fun d mu1 => dn (fldD G mu1 d) mu1
  | .meth o m as, rho, mu => bdD (ev G o rho mu) fun d mu1 => if insB mu1 d = true then bd (evA G as rho mu1) fun ds mu2 => methD G m (d :: ds) mu2 else none
  | .new as, rho, mu => bd (evA G as rho mu) fun ds mu1 => newD G ds mu1
  | .isiT a ks, rho, mu => bdD (ev G a rho mu) fun d mu1 => dn ((isKs d ks).map .bl) mu1
  | .dgt d k z, rho, mu => bd (ev G d rho mu) fun x mu1 => if (dicOf rho mu1 x).isSome = true then bdD (ev G k rho mu1) fun y mu2 => bdD (ev G z rho mu2) fun u mu3 => dn (dgetZ rho mu3 x y u) mu3 else none
  | _, _, _ => none
def evA (G : Gam) : E → Env → Store → Option (List Dat × Store)
  | .anil, _, mu => some ([], mu)
  | .acons a r, rho, mu => bdD (ev G a rho mu) fun d mu1 => bd (evA G r rho mu1) fun ds mu2 => some (d :: ds, mu2)
  | _, _, _ => none
def evHs (G : Gam) : E → Env → Store → Option (List Hd × Store)
  | .anil, _, mu => some ([], mu)
  | .acons a r, rho, mu => bd (ev G a rho mu) fun d mu1 => bd (evHs G r rho mu1) fun ds mu2 => some (d :: ds, mu2)
  | _, _, _ => none
def evAnd (G : Gam) : E → Env → Store → Option (Hd × Store)
  | .acons a r, rho, mu => match r with
    | .anil => bdD (ev G a rho mu) fun x mu1 => dn ((isB x).map .bl) mu1
    | r => bdD (ev G a rho mu) fun x mu1 => match isB x with
      | some true => evAnd G r rho mu1
      | some false => some (.dat (.bl false), mu1)
      | none => none
  | _, _, _ => none
def evOr (G : Gam) : E → Env → Store → Option (Hd × Store)
  | .acons a r, rho, mu => match r with
    | .anil => bdD (ev G a rho mu) fun x mu1 => dn ((isB x).map .bl) mu1
    | r => bdD (ev G a rho mu) fun x mu1 => match isB x with
      | some false => evOr G r rho mu1
      | some true => some (.dat (.bl true), mu1)
      | none => none
  | _, _, _ => none
/-- a slice's bound: none or one -/
def evO (G : Gam) : E → Env → Store → Option (Option Int × Store)
  | .anil, _, mu => some (none, mu)
  | .acons a .anil, rho, mu => bdD (ev G a rho mu) fun x mu1 => match isI x with
    | some i => some (some i, mu1)
    | none => none
  | _, _, _ => none
/-- the tests of a comprehension: none or one -/
def evTs (G : Gam) : E → Env → Store → Option (Bool × Store)
  | .anil, _, mu => some (true, mu)
  | .acons a .anil, rho, mu => bdD (ev G a rho mu) fun x mu1 => match isB x with
    | some b => some (b, mu1)
    | none => none
  | _, _, _ => none
/-- what is walked -/
def evI (G : Gam) : E → Env → Store → Option (List Dat × Store)
  | .range1 a, rho, mu => bdD (ev G a rho mu) fun x mu1 => match isI x with
    | some n => if smallI n then some (rangeD 0 n.toNat, mu1) else none
    | none => none
  | .range2 a b, rho, mu => bdD (ev G a rho mu) fun x mu1 => bdD (ev G b rho mu1) fun y mu2 => match isI x, isI y with
    | some i, some j => if smallI i ∧ smallI j then some (rangeD i (j - i).toNat, mu2) else none
    | _, _ => none
  | .zip a b, rho, mu => bdD (ev G a rho mu) fun x mu1 => bdD (ev G b rho mu1) fun y mu2 => match zipX x y with
    | some l => some (l, mu2)
    | none => none
  | .enum a, rho, mu => bdD (ev G a rho mu) fun x mu1 => match x with
    | .lst l => some (enumD 0 l, mu1)
    | .tup l => some (enumD 0 l, mu1)
    | _ => none
  | .items a, rho, mu => bdD (ev G a rho mu) fun x mu1 => match itemsD x with
    | some l => some (l, mu1)
    | none => none
  | _, _, _ => none
end
theorem test_struct (G : Gam) (a b : E) (rho : Env) (mu : Store) : ev G (.op .add a b) rho mu = bd (ev G a rho mu) fun x mu1 => bd (ev G b rho mu1) fun y mu2 => dn (opD rho mu2 .add x y) mu2 := rfl
end Lin

set_option maxHeartbeats 2000000
/-! Lin, part X2: a lambda made, a function called by a parameter's name (beside the kit's Lambda and Nested). -/
namespace Lin
open PySem PySem.Spec PyProof.Rows L2 LamX NdefX

/-- the lambda's object -/
def LamO (f : Addr) (F : NF) (body : Expr) : HO := .ext fun h => ∃ (pm ctv : Value), h.get? f = some (PySem.W.kla_obj F.name F.qual F.params body F.scope F.cl pm F.c ctv)
theorem lamO_at {P : Program} {w : World} {H : Hp} {h : Heap} {f : Addr} {F : NF} {body : Expr} (hok : HOk P w H h) (e : H f = some (LamO f F body)) : ∃ (pm ctv : Value), h.get? f = some (PySem.W.kla_obj F.name F.qual F.params body F.scope F.cl pm F.c ctv) := by
  obtain ⟨z, _, _⟩ := hok f _ e
  exact z
section
variable {X : Cx} {pins : List (Addr × Obj)} {σ : L2.St} {H : Hp} {s : Shared}
theorem inv_lam {F : NF} {body : Expr} {o : Obj} {t' : Nat} {pm ctv : Value} (I : Inv X pins σ H s) (ho : o = PySem.W.kla_obj F.name F.qual F.params body F.scope F.cl pm F.c ctv) :
    Inv X pins σ (upd H s.heap.objs.size (LamO s.heap.objs.size F body)) { s with heap := s.heap.push o, toks := t' } := by
  subst ho
  refine I.laid (a := s.heap.objs.size) (fun b u e => Heap.get?_push_of_some _ e) (Nat.le_refl _) ?_
  have e : (s.heap.push (PySem.W.kla_obj F.name F.qual F.params body F.scope F.cl pm F.c ctv)).get? s.heap.objs.size = some (PySem.W.kla_obj F.name F.qual F.params body F.scope F.cl pm F.c ctv) := Heap.get?_push_size _ rfl
  exact ⟨⟨pm, ctv, e⟩, ⟨_, e⟩, fun h1 h2 ⟨p, t, z⟩ st => ⟨p, t, st _ z⟩⟩
/-- the codes that a table tells are known -/
def Told (H : Hp) (q : Str) (ps : Array Value) : Prop := TriplesOk ps.toList ∧ ∀ (pos : Pos) (cv : Value), codeAmong pos ps.toList = some cv → ∃ c, cv = .ref c ∧ H c = some (CodeO c q)
def tMk (P : Addr) (q : Str) (mk : Addr → NF) (body : Expr) : TE := fun σ H Q => ∃ ps : Array Value, H P = some (.tbl ps) ∧ Told H q ps ∧
  (∀ f c', H c' = some (CodeO c' q) → (∃ (pos : Pos), codeAmong pos ps.toList = some (.ref c')) → H f = none → Q (.ref f) (upd H f (LamO f (mk c') body))) ∧
  (∀ f c' ps', H c' = none → H f = none → f ≠ c' → f ≠ P → TriplesOk ps'.toList → (∀ (pos : Pos) (cv : Value), codeAmong pos ps'.toList = some cv → codeAmong pos ps.toList = some cv ∨ cv = .ref c') → Q (.ref f) (upd (upd (upd H c' (CodeO c' q)) P (.tbl ps')) f (LamO f (mk c') body)))
theorem upd_swap {H : Hp} {a b : Addr} {o u : HO} (h : a ≠ b) : upd (upd H a o) b u = upd (upd H b u) a o := by
  funext c
  by_cases z1 : c = a
  · subst z1
    rw [upd_ne h, upd_same, upd_same]
  · by_cases z2 : c = b
    · subst z2
      rw [upd_same, upd_ne z1, upd_same]
    · rw [upd_ne z2, upd_ne z1, upd_ne z1, upd_ne z2]
theorem pe_mk {c P : Addr} {params : Arguments} {body : Expr} {scope : Scope} {pos : Pos} (TB : TabB X.base X.mg c P) (hcode : X.env.code = .ref c) (hdef : defaultsOf params X.env = ([], []))
    (hfree : ∀ y ∈ scope.names, y.2 = .free → X.env.scope.names.lookup y.1 = some .cell ∨ X.env.scope.names.lookup y.1 = some .free) :
    PE X (.Lambda params body scope pos) (tMk P (X.env.qual ++ "<lambda>") (fun c' => ⟨"<lambda>", X.env.qual ++ "<lambda>", params, [], scope, cloFrom X.env.cells scope.names [], c'⟩) body) := by
  refine ⟨fun pins s σ H Q I h => ?_⟩
  obtain ⟨ps, hP, ⟨ht, ha⟩, hq1, hq2⟩ := h
  refine PySem.W.kla_eval hdef ?_
  have hfr : ∀ y ∈ scope.names, y.2 = .free → ∃ c, X.env.cells.lookup y.1 = some c := fun y hy e => (hfree y hy e).elim (fun z => I.ok.has _ (.inl z)) fun z => I.ok.has _ (.inr z)
  have bP : s.heap.BuiltinsAt X.mg P := TB.bm.keeps I.bk
  have hP' : s.heap.get? P = some { cls := .none, data := .fields ps } := I.hok P _ hP
  cases hc : codeAmong pos ps.toList with
  | none =>
    refine PySem.W.kla_makeFunction (mg := X.mg) (c := c) (P := P) (ps := ps) (closure_ok hfr) I.ok.glob (I.mod.glob.keeps I.bk) hcode (TB.code.keeps I.bk) hP' ht hc TB.gP bP fun c' ctv h' tk hx hge hlt hrec htb => ?_
    obtain ⟨c2, oc, vs, t, e2, hoc, hd, hv⟩ := hrec
    cases e2
    have nC : H c' = none := I.hok.fresh hge
    have nPc : P ≠ c' := ne_of_none hP nC
    have I1 := inv_table (t' := tk) (more := #[rawInt pos.line, rawInt pos.col, .ref c']) (h' := h') I hP (fun b o hb e => hx b o hb e) htb hge ⟨oc, vs, t, hoc, hd, hv⟩
    have hsz : s.heap.objs.size ≤ h'.objs.size := Nat.le_trans hge (Nat.le_of_lt hlt)
    have I2 := inv_lam (F := ⟨"<lambda>", X.env.qual ++ "<lambda>", params, [], scope, cloFrom X.env.cells scope.names [], c'⟩) (body := body) (t' := tk) (pm := (X.mg "__name__").getD .none) (ctv := ctv) I1 rfl
    rw [upd_swap nPc] at I2
    have eL : (ps ++ #[rawInt pos.line, rawInt pos.col, .ref c']).toList = ps.toList ++ [rawInt pos.line, rawInt pos.col, .ref c'] := by simp
    refine ⟨.ref h'.objs.size, _, I2, rfl, hq2 h'.objs.size c' _ nC (I.hok.fresh hsz) (Nat.ne_of_gt hlt) (Nat.ne_of_gt (Nat.lt_of_lt_of_le (Heap.lt_size hP') hsz)) (by rw [eL]; exact PySem.TriplesOk_snoc _ _ _ _ ht) fun p' cv hcv => ?_⟩
    rw [eL] at hcv
    exact among_app _ ht hcv
  | some cv =>
    obtain ⟨c', e, hco⟩ := ha pos cv hc
    subst e
    refine PySem.W.kla_makeFunctionHit (mg := X.mg) (c := c) (P := P) (ps := ps) (closure_ok hfr) I.ok.glob (I.mod.glob.keeps I.bk) hcode (TB.code.keeps I.bk) hP' ht hc bP fun ctv h' tk hx hsz => ?_
    have I1 : Inv X pins σ H { s with heap := h', toks := tk } := I.kept hx
    have I2 := inv_lam (F := ⟨"<lambda>", X.env.qual ++ "<lambda>", params, [], scope, cloFrom X.env.cells scope.names [], c'⟩) (body := body) (t' := tk) (pm := (X.mg "__name__").getD .none) (ctv := ctv) I1 rfl
    exact ⟨.ref h'.objs.size, _, I2, rfl, hq1 h'.objs.size c' hco ⟨pos, hc⟩ (I.hok.fresh hsz)⟩
end
section
variable {P : Program} {w : World} {K : PySem.W.Frag} {mg : Str → Option Value} {base : Heap}
/-- the made lambda called, in a state behind the one where its cells were looked at -/
theorem clo_run {CX : CXT} {f : Addr} {F : NF} {body : Expr} {N ps fr : List Str} {ws : List (Option V)} {fs : List Addr} {s s1 : Shared} {H H1 : Hp} (S : NScope N ps fr F.scope)
    (hb : ∀ (pm ctv : Value) (us : List Value), us.length = ps.length → bindArgs (PySem.W.kla_fn F.name F.qual F.params body F.scope F.cl pm (.ref F.c) ctv) ⟨us, []⟩ = pure (ps.zip us))
    (C : CellsAt F.cl fr ws s.heap H) (un : Un fs [] H H1 s.heap s1.heap) (hf : H1 f = some (LamO f F body)) (hc : H1 F.c = some (CodeO F.c F.qual))
    {A : Around} {outer : List PySem.Env} {us : List Value} {vs : List V} {Q : VK} {E : XK} {t : TE} {k : Nat} (e0 : Env0 P w K mg base A outer s1 H1) (hr : Room (k + 1) A) (r : Vals vs us) (hl : vs.length = ps.length)
    (hbody : Room k (A.deeper (envF F f s1.heap.objs.size)) → PE (ncx CX P w K mg base N F f A outer s1 H1 E) body t) (ht : t (startF N vs ws) H1 Q) :
    codeAny (model P w) A (.call (.ref f) ⟨us, []⟩) (CR CX outer P w H1 s1 Q E) s1 := by
  have lim : s1.heap.NoLimit := e0.mod.nolimit.keeps fun b o e => (e0.bs b o e).1
  obtain ⟨pm, ctv, ho⟩ := lamO_at e0.hok hf
  have cellK : ∀ {c : Addr} {v : Option Value}, H c = none → s.heap.IsCell c v → s1.heap.IsCell c v := fun {c v} n ⟨o, ho, hd⟩ => by
    obtain ⟨sl, q⟩ := un.any ho n (by simp)
    exact ⟨_, q, hd⟩
  have C1 : CellsAt F.cl fr ws s1.heap H1 := by
    refine ⟨C.len, fun y c e => ?_, C.inj, fun i y e => ?_⟩
    · obtain ⟨n, v, z⟩ := C.all y c e
      refine ⟨?_, v, cellK n z⟩
      obtain ⟨o, ho, _⟩ := z
      exact un.free c o ho n (by simp)
    · obtain ⟨c, hc, hv⟩ := C.has i y e
      refine ⟨c, hc, fun v ev => ?_⟩
      obtain ⟨u, r, z⟩ := hv v ev
      exact ⟨u, r, cellK (C.all y c hc).1 z⟩
  refine PySem.W.kla_callFunE hr.depth ho rfl S.co S.gen rfl (codeO_at e0.hok hc) ?_
  rw [hb pm ctv us (by rw [← r.length]; exact hl)]
  refine wpAny_pure (wpAny_newFunctionEnv S.nocell (fun ⟨n, _⟩ hy => S.par n (List.of_mem_zip hy).1) (fun h₁ hns hsb => ⟨lim.fresh _ hsb, ?_⟩) S.kind)
  show codeAny _ _ (.expr body (envF F f s1.heap.objs.size)) _ _
  have kp : ∀ b o, s1.heap.get? b = some o → h₁.get? b = some o := fun b o e => hsb.extBut b o (Nat.ne_of_lt (Heap.lt_size e)) (Heap.get?_push_of_some _ e)
  have I : Inv (ncx CX P w K mg base N F f A outer s1 H1 E) [] (startF N vs ws) H1 { s1 with heap := h₁, toks := s1.toks + (ps.zip us).length } := inv_startN S hr.hd e0 hl r C1 hns kp
  refine PySem.W.kla_codeExpr (wpAny_mono ((hbody (hr.deeper _)).run [] _ _ H1 Q I ht) (fun v s' hq => ?_) fun e s' hq => hq)
  obtain ⟨v', H', J', rv, q⟩ := hq
  exact ⟨v', H', J'.os, J'.bare, J'.base, J'.hok, rv, q⟩
/-- what calls of the function at f do, in states behind (s, H) -/
def Hof (P : Program) (w : World) (K : PySem.W.Frag) (mg : Str → Option Value) (base : Heap) (fs : List Addr) (s : Shared) (H : Hp) (f : Addr) (j : Nat) (sp : Sp) : Prop :=
  ∀ (A : Around) (outer : List PySem.Env) (s1 : Shared) (H1 : Hp) (us : List Value) (vs : List V) (Q : VK) (E : XK), Room j A → Env0 P w K mg base A outer s1 H1 → Un fs [] H H1 s.heap s1.heap → Vals vs us → sp vs H1 Q E →
    codeAny (model P w) A (.call (.ref f) ⟨us, []⟩) (CR (L2.CX P w) outer P w H1 s1 Q E) s1
theorem Hof.imp {fs : List Addr} {s : Shared} {H : Hp} {f : Addr} {i j : Nat} {sp sp' : Sp} (h : Hof P w K mg base fs s H f i sp) (hj : i ≤ j) (hs : ∀ vs H1 Q E, sp' vs H1 Q E → sp vs H1 Q E) : Hof P w K mg base fs s H f j sp' :=
  fun A outer s1 H1 us vs Q E hr e0 un r q => h A outer s1 H1 us vs Q E (hr.mono hj) e0 un r (hs _ _ _ _ q)
end
section
variable {X : Cx} {i j k : Nat} {x : Str} {p pos : Pos} {e : Expr} {es : List Expr} {t : TA} {sp : Sp} {E : XK} {f : Addr} {F : NF} {body : Expr}
theorem lamAt_of {pins : List (Addr × Obj)} {σ : L2.St} {H : Hp} {s : Shared} (I : Inv X pins σ H s) (e : H f = some (LamO f F body)) : PySem.W.FnAt f s.heap := by
  obtain ⟨pm, ctv, ho⟩ := lamO_at I.hok e
  exact ⟨_, _, _, _, ho⟩
/-- x(e, ..), x a parameter that holds the function -/
theorem pe_hof (h : Hof X.prog X.w X.K X.mg X.base X.fs X.s_0 X.H_0 f j sp) (hex : X.ex = []) (hr : Room k X.A) (hk : j ≤ k) (hx : Passes (L2.CX X.prog X.w) X E) (hN : X.N[i]? = some x) (hv : Vis X.env.scope x) (ha : PA X (e :: es) t)
    (hd : (x == ("__debug__" : Str)) = false) (hcd : (x == ("__classdict__" : Str)) = false)
    (he : starEach (e :: es) X.env = (false, eval e X.env) :: starEach es X.env) (hpl : (backTo pos (starEach es X.env)).any (·.1) = false) :
    PE X (.Call (.Name x p) (e :: es) [] pos) (fun σ H Q => σ[i]? = some (some (.ref f)) ∧ H f = some (LamO f F body) ∧ t σ H fun vs H1 => H1 f = some (LamO f F body) ∧ sp vs H1 Q E) := by
  refine ⟨fun pins s σ H Q I h' => ?_⟩
  obtain ⟨hs, hf, ht⟩ := h'
  refine wpAny_Call_Name_kw (thn ((pe_var (pos := p) hN hv hd hcd).run pins s σ H (fun v H1 => v = .ref f ∧ H1 = H) I ⟨.ref f, hs, rfl, rfl⟩) fun u s1 ⟨v, H1, I1, r1, q1⟩ => ?_)
  obtain ⟨ev, eH⟩ := q1
  subst ev
  rw [eH] at I1
  obtain rfl : u = Value.ref f := r1
  refine PySem.W.callWith_F (first := []) (lamAt_of I1 hf) (thn (ha.run pos pins s1 σ H _ I1 ht) fun us s2 ⟨vs, H2, I2, r, h1, q⟩ => ⟨lamAt_of I2 h1, ?_⟩) he hpl
  show wpAny _ _ (call (.ref f) us) _ _ _
  have un : Un X.fs [] X.H_0 H2 X.s_0.heap s2.heap := by
    have := I2.base
    rw [hex] at this
    exact this
  refine wpAny_call (codeAny_mono (h X.A X.stack s2 H2 us vs Q E (hr.mono hk) I2.env0 un r q) fun r s' hq => ?_)
  cases r with
  | error e => exact hx pins σ H2 s2 e s' I2 hq
  | ok fl =>
    cases fl with
    | ret u => exact I2.after hq
    | next => exact False.elim hq
    | brk => exact False.elim hq
    | cont => exact False.elim hq
end
/-! ### tuple(range(a, b, c)) -/
theorem vals_rgC {i c : Int} {n : Nat} {acc : Array Value} (h : ItemsOf (fun k v => ∃ t, v = .int (i + k * c) t) acc n) : Vals ((List.range n).map fun k => V.int (i + (k : Nat) * c)) acc.toList := by
  have e : acc.toList.length = n := by rw [Array.length_toList]; exact h.1
  rw [← e]
  refine vals_of_get acc.toList _ fun j u hj => ?_
  obtain ⟨t, rfl⟩ := h.2 j u (by rw [← hj, Array.getElem?_toList])
  exact ⟨t, rfl⟩
theorem pe_tupRg3 {X : Cx} {a b c : Expr} {ta : TA} {p q pos pos2 : Pos} (hc : X.calm = true) (hg : Gl X "tuple") (hm : X.mg "tuple" = none) (hg2 : Gl X "range") (hm2 : X.mg "range" = none) (ha : PA X [a, b, c] ta)
    (hs : starEach [a, b, c] X.env = (false, eval a X.env) :: starEach [b, c] X.env) (hpl : (backTo pos2 (starEach [b, c] X.env)).any (·.1) = false) :
    PE X (.Call (.Name "tuple" p) [.Call (.Name "range" q) [a, b, c] [] pos2] [] pos) (fun σ H Q => ta σ H fun vs H1 => ∃ (i j k : Int) (n : Nat), vs = [.int i, .int j, .int k] ∧ RgC i j k n ∧ n ≤ 2 ^ 24 ∧ ∀ a, H1 a = none → Q (.ref a) (upd H1 a (.tup ((List.range n).map fun m => V.int (i + (m : Nat) * k))))) := by
  refine ⟨fun pins s σ H Q I h => ?_⟩
  refine Call_ (ld_blt I hg hm boot_tuple (PyProof.Rows.callWith_type1 (args_cons (Q := fun vs s' => wpAny (model X.prog X.w) X.A (call (.type "tuple") vs) (EP X pins σ Q) X.xe s') (thn (Q := fun x s' => ∃ r i j k t u v n H', x = .ref r ∧ IsRange s'.heap r i j k t u v ∧ RgC i j k n ∧ n ≤ 2 ^ 24 ∧ Inv X pins σ H' s' ∧ ∀ a, H' a = none → Q (.ref a) (upd H' a (.tup ((List.range n).map fun m => V.int (i + (m : Nat) * k))))) ?_ fun x s1 ⟨r, i, j, k, t, u, v, n, H1, ex, hr, rg, hn, I1, q⟩ => args_nil ?_) rfl) rfl))
  · refine Call_ (ld_blt I hg2 hm2 boot_range (PyProof.Rows.callWith_type1 (thn (ha.run pos2 pins s σ H _ I h) fun us s1 ⟨vs, H1, I1, r1, q1⟩ => ?_) hs hpl))
    obtain ⟨i, j, k, n, e, rg, hn, q⟩ := q1
    subst e
    cases r1 with
    | cons r rr =>
      cases rr with
      | cons r' rr =>
        cases rr with
        | cons r'' rr =>
          cases rr
          obtain ⟨t, rfl⟩ := r
          obtain ⟨t', rfl⟩ := r'
          obtain ⟨t'', rfl⟩ := r''
          refine call_range_3 rg.1 ?_ (.inl (PyProof.noPylong_small rg.2.1))
          exact ⟨_, i, j, k, _, _, _, n, H1, rfl, IsRange.new _ _ _ _ _ _ _, rg, hn, I1.kept (t' := s1.toks) fun b u e => Heap.get?_push_of_some _ e, q⟩
  · subst ex
    refine call_tuple_range (n := n) (I1.ok.hd hc) hr rg.2.2.1 rg.2.2.2 hn fun h' tk acc hk hi => ?_
    have I2 : Inv X pins σ H1 { s1 with heap := h', toks := tk } := I1.kept hk
    refine ⟨.ref h'.objs.size, upd H1 h'.objs.size (.tup ((List.range n).map fun m => V.int (i + (m : Nat) * k))), I2.laid (t' := tk) (fun c o e => Heap.get?_push_of_some _ e) (Nat.le_refl _) (show ObjOk X.prog X.w _ _ _ (.tup _) from ⟨?_, acc.toList, vals_rgC hi, ?_⟩), rfl, q _ (I2.hok.fresh (Nat.le_refl _))⟩
    · rw [List.length_map, List.length_range, sizeLine_eq]; omega
    · rw [Array.toArray_toList]; exact IsTup.new _ _
theorem rgC2 {i j : Int} (h0 : 0 ≤ i) (h1 : i ≤ 10 ^ 12) (h2 : 0 ≤ j) (h3 : j ≤ 10 ^ 12) : RgC i j 2 (if i < j then ((j - i - 1) / 2 + 1).toNat else 0) := by
  have hs : Builtin.Range.rangeSize i j 2 = ((if i < j then ((j - i - 1) / 2 + 1).toNat else 0 : Nat) : Int) := by
    unfold Builtin.Range.rangeSize
    rw [if_pos (by decide)]
    split
    · rw [Int.toNat_of_nonneg (by omega)]
    · rfl
  refine ⟨by decide, by decide, ?_, hs⟩
  unfold Builtin.Range.small
  rw [hs]
  simp only [Builtin.Range.rangeFitsLong, Bool.and_eq_true, Bool.or_eq_true, decide_eq_true_eq, beq_iff_eq, show (2 : Int) > 0 by decide, if_true]
  split <;> omega
end Lin

/-! Lin, part C: how the small language lies to the text; the defs' promises. -/
namespace Lin
open PySem PySem.Spec PyProof.Rows L2

/-- the names of the defs, of the int constants, of the exception classes -/
structure Nms where
  fn : Nat → Str
  gc : Nat → Str
  xc : Nat → Str
def bltName : Bt → Str
  | .len => "len" | .sum => "sum" | .max => "max" | .min => "min" | .all => "all" | .abs => "abs" | .tuple => "tuple" | .list => "list" | .sorted => "sorted" | .int => "int"
def kdName : Kd → String
  | .int => "int" | .bool => "bool" | .tuple => "tuple" | .list => "list" | .str => "str"
/-- all built-in names that may stand in a text -/
def bltAll : List Str := ["len", "sum", "max", "min", "all", "abs", "tuple", "list", "sorted", "int", "bool", "str", "range", "zip", "enumerate", "isinstance", "set"]

def visB (sc : Scope) (x : Str) : Bool := match sc.names.lookup x with
  | some .local => true
  | some .cell => true
  | some .free => true
  | _ => false
def locB (sc : Scope) (x : Str) : Bool := match sc.names.lookup x with
  | some .local => true
  | some .cell => true
  | _ => false
def lclB (sc : Scope) (x : Str) : Bool := match sc.names.lookup x with
  | some .local => true
  | _ => false
def glB (sc : Scope) (x : Str) : Bool := match sc.names.lookup x with
  | some .globalImplicit => true
  | _ => false
def plainName (x : Str) : Bool := !(x == ("__debug__" : Str)) && !(x == ("__classdict__" : Str)) && !(x == ("__name__" : Str))
theorem visB_of {sc : Scope} {x : Str} (h : visB sc x = true) : Vis sc x := by
  unfold visB at h
  split at h
  · rename_i e; exact .inl e
  · rename_i e; exact .inr (.inl e)
  · rename_i e; exact .inr (.inr e)
  · cases h
theorem locB_of {sc : Scope} {x : Str} (h : locB sc x = true) : Loc sc x := by
  unfold locB at h
  split at h
  · rename_i e; exact .inl e
  · rename_i e; exact .inr e
  · cases h
theorem lclB_of {sc : Scope} {x : Str} (h : lclB sc x = true) : sc.names.lookup x = some .local := by
  unfold lclB at h
  split at h
  · assumption
  · cases h
theorem glB_of {sc : Scope} {x : Str} (h : glB sc x = true) : sc.names.lookup x = some .globalImplicit := by
  unfold glB at h
  split at h
  · assumption
  · cases h

def mOp : AOp → Operator → Bool
  | .add, .Add => true | .sub, .Sub => true | .mul, .Mult => true | .fdiv, .FloorDiv => true | .mod, .Mod => true | .pow, .Pow => true
  | _, _ => false
def mCmp : COp → CmpOp → Bool
  | .eq, .Eq => true | .ne, .NotEq => true | .lt, .Lt => true | .le, .LtE => true | .gt, .Gt => true | .ge, .GtE => true
  | .is, .Is => true | .isn, .IsNot => true | .mem, .In => true | .nmem, .NotIn => true
  | _, _ => false
mutual
/-- targets of a comprehension or a loop -/
def mT (N : List Str) (sc : Scope) (ok : Str → Bool) : T → Expr → Bool
  | .nm i, .Name x _ => decide (N[i]? = some x) && locB sc x && ok x
  | .tup a, .Tuple xs _ _ => mTs N sc ok a xs
  | _, _ => false
def mTs (N : List Str) (sc : Scope) (ok : Str → Bool) : T → List Expr → Bool
  | .nil, [] => true
  | .cons a r, x :: xs => mT N sc ok a x && mTs N sc ok r xs
  | _, _ => false
end
/-- the slots of a target -/
def T.slots : T → List Nat
  | .nm i => [i]
  | .nil => []
  | .cons a r => a.slots ++ r.slots
  | .tup a => a.slots
/-- no tuple is walked behind a name (zip, enumerate) -/
def isTup : T → Bool
  | .tup _ => true
  | _ => false
def compOk (scope : Scope) (x : Str) : Bool := match scope.names.lookup x with
  | some .local => true
  | some .cell => true
  | _ => false
/-- range(z), range(w, z) -/
def rg1 (sc : Scope) : Expr → Option Expr
  | .Call (.Name y _) [z] [] _ => if y = ("range" : Str) ∧ glB sc y = true then some z else none
  | _ => none
def rg2 (sc : Scope) : Expr → Option (Expr × Expr)
  | .Call (.Name y _) [w, z] [] _ => if y = ("range" : Str) ∧ glB sc y = true then some (w, z) else none
  | _ => none
def rg3 (sc : Scope) : Expr → Option (Expr × Expr)
  | .Call (.Name y _) [w, z, .Constant (.int k) _ _] [] _ => if y = ("range" : Str) ∧ glB sc y = true ∧ k = 2 then some (w, z) else none
  | _ => none
def mKs (sc : Scope) : List Kd → List Expr → Bool
  | [], [] => true
  | k :: ks, .Name z _ :: zs => decide (z = Str.ofString (kdName k)) && glB sc z && mKs sc ks zs
  | _, _ => false
mutual
def mE (nm : Nms) (N : List Str) (sc : Scope) : E → Expr → Bool
  | .var i, .Name x _ => decide (N[i]? = some x) && visB sc x && plainName x
  | .int i, .Constant (.int j) _ _ => decide (i = j)
  | .bl b, .Constant (.bool c) _ _ => decide (b = c)
  | .non, .Constant .none _ _ => true
  | .str y, .Constant (.str z) _ _ => decide (y = z)
  | .glob g, .Name x _ => decide (x = nm.gc g) && glB sc x && plainName x
  | .tup as, .Tuple xs _ _ => mEs nm N sc as xs
  | .lst as, .List xs _ => mEs nm N sc as xs
  | .op o a b, .BinOp x p y _ => mOp o p && mE nm N sc a x && mE nm N sc b y
  | .neg a, .UnaryOp .USub x _ => mE nm N sc a x
  | .rep as n, .BinOp (.List xs _) .Mult y _ => mEs nm N sc as xs && mE nm N sc n y
  | .not a, .UnaryOp .Not x _ => mE nm N sc a x
  | .cmp o a b, .Compare x [p] [y] _ => mCmp o p && mE nm N sc a x && mE nm N sc b y
  | .chain o o' a b c, .Compare x [p, p'] [y, z] _ => mCmp o p && mCmp o' p' && mE nm N sc a x && mE nm N sc b y && mE nm N sc c z
  | .and as, .BoolOp .And xs _ => mEs nm N sc as xs
  | .or as, .BoolOp .Or xs _ => mEs nm N sc as xs
  | .ite c a b, .IfExp z x y _ => mE nm N sc c z && mE nm N sc a x && mE nm N sc b y
  | .slc a lo hi, .Subscript x (.Slice l h none _) _ => mE nm N sc a x && mO nm N sc lo l && mO nm N sc hi h
  | .ix a i, .Subscript x y _ => mE nm N sc a x && mE nm N sc i y
  | .call f as, .Call (.Name x _) xs [] _ => decide (x = nm.fn f) && glB sc x && plainName x && mEs nm N sc as xs
  | .blt b as, .Call (.Name x _) xs [] _ => decide (x = bltName b) && glB sc x && mEs nm N sc as xs
  | .tupR3 a b, .Call (.Name x _) [c] [] _ => decide (x = ("tuple" : Str)) && glB sc x && (match rg3 sc c with
    | some (w, z) => mE nm N sc a w && mE nm N sc b z
    | none => false)
  | .tupR1 b, .Call (.Name x _) [c] [] _ => decide (x = ("tuple" : Str)) && glB sc x && (match rg1 sc c with
    | some z => mE nm N sc b z
    | none => false)
  | .lstR1 b, .Call (.Name x _) [c] [] _ => decide (x = ("list" : Str)) && glB sc x && (match rg1 sc c with
    | some z => mE nm N sc b z
    | none => false)
  | .lstR2 a b, .Call (.Name x _) [c] [] _ => decide (x = ("list" : Str)) && glB sc x && (match rg2 sc c with
    | some (w, z) => mE nm N sc a w && mE nm N sc b z
    | none => false)
  | .isi a k, .Call (.Name x _) [y, .Name z _] [] _ => decide (x = ("isinstance" : Str)) && glB sc x && decide (z = Str.ofString (kdName k)) && glB sc z && mE nm N sc a y
  | .revT a, .Subscript x (.Slice none none (some (.UnaryOp .USub (.Constant (.int j) _ _) _)) _) _ => decide (j = 1) && mE nm N sc a x
  | .sset a, .Call (.Name x _) [.Call (.Name y _) [z] [] _] [] _ => decide (x = ("sorted" : Str)) && glB sc x && decide (y = ("set" : Str)) && glB sc y && mE nm N sc a z
  | .lzip a b, .Call (.Name x _) [.Call (.Name y _) [u, v] [] _] [] _ => decide (x = ("list" : Str)) && glB sc x && decide (y = ("zip" : Str)) && glB sc y && mE nm N sc a u && mE nm N sc b v
  | .dgt d k z, .Call (.Attribute (.Name y yp) n pa) [u, v] [] pc => decide (n = ("get" : Str)) && (pa.endLine == pc.line) && mE nm N sc d (.Name y yp) && mE nm N sc k u && mE nm N sc z v
  | .fld a, .Attribute (.Name y yp) n _ => decide (n = ("states" : Str)) && mE nm N sc a (.Name y yp)
  | .meth o m as, .Call (.Attribute (.Name y yp) n pa) xs [] pc => decide (n = mName m) && (pa.endLine == pc.line) && mE nm N sc o (.Name y yp) && mEs nm N sc as xs
  | .new as, .Call (.Name x _) xs [] _ => decide (x = ("Editor" : Str)) && glB sc x && !xs.isEmpty && mEs nm N sc as xs
  | .isiT a ks, .Call (.Name x _) [y, .Tuple zs _ _] [] _ => decide (x = ("isinstance" : Str)) && glB sc x && (!ks.isEmpty && decide (ks.length ≤ 100)) && mKs sc ks zs && mE nm N sc a y
  | .lc own tg it ifs elt, .ListComp y [⟨t, i, fs, 0⟩] scope _ => mI nm N sc (isTup tg) it i && blkC N sc scope own && mT N (relS scope sc) (compOk scope) tg t && tg.slots.all (fun j => decide (j ∈ own.map (·.2))) &&
      mEs nm N (relS scope sc) ifs fs && mE nm N (relS scope sc) elt y
  | _, _ => false
def mEs (nm : Nms) (N : List Str) (sc : Scope) : E → List Expr → Bool
  | .anil, [] => true
  | .acons a r, x :: xs => mE nm N sc a x && mEs nm N sc r xs
  | _, _ => false
def mO (nm : Nms) (N : List Str) (sc : Scope) : E → Option Expr → Bool
  | .anil, none => true
  | .acons a .anil, some x => mE nm N sc a x
  | _, _ => false
/-- what is walked; tp: the target is a tuple -/
def mI (nm : Nms) (N : List Str) (sc : Scope) (tp : Bool) : E → Expr → Bool
  | .items a, x => mE nm N sc a x
  | .range1 a, .Call (.Name x _) [y] [] _ => decide (x = ("range" : Str)) && glB sc x && mE nm N sc a y
  | .range2 a b, .Call (.Name x _) [y, z] [] _ => decide (x = ("range" : Str)) && glB sc x && mE nm N sc a y && mE nm N sc b z
  | .zip a b, .Call (.Name x _) [y, z] [] _ => tp && decide (x = ("zip" : Str)) && glB sc x && mE nm N sc a y && mE nm N sc b z
  | .enum a, .Call (.Name x _) [y] [] _ => tp && decide (x = ("enumerate" : Str)) && glB sc x && mE nm N sc a y
  | _, _ => false
end

/-! ### the defs' promises -/
def spOf (K : PySem.W.Frag) (xa : Nat → Addr) (ar : Nat) (F : Fn) : Sp := fun vs H Q E => vs.length = ar ∧ ∃ (B : Hp) (th : List Addr) (mu : Store) (ds : List Dat) (r : Res), SRc K B H th mu ∧ Reps K B th ds vs ∧ F ds mu = some r ∧
  match r with
  | .ok d mu' => ∀ v B' H' th', SRc K B' H' th' mu' → Fut B H th B' H' th' → Rep K B' th' d v → Q v H'
  | .exc c mu' => ∀ B' H' th', SRc K B' H' th' mu' → Fut B H th B' H' th' → E (.ref (xa c)) none H'
/-- how a call may end -/
def endOf (K : PySem.W.Frag) (xa : Nat → Addr) (B H : Hp) (th : List Addr) (r : Res) (Q : VK) (E : XK) : Prop := match r with
  | .ok d mu' => ∀ v B' H' th', SRc K B' H' th' mu' → Fut B H th B' H' th' → Rep K B' th' d v → Q v H'
  | .exc c mu' => ∀ B' H' th', SRc K B' H' th' mu' → Fut B H th B' H' th' → E (.ref (xa c)) none H'
/-- the promise of a function that was made when (B, th) stood -/
def spAt (K : PySem.W.Frag) (xa : Nat → Addr) (B : Hp) (th : List Addr) (ar : Nat) (F : Fn) : Sp := fun vs H Q E => vs.length = ar ∧ ∃ (B1 : Hp) (th1 : List Addr) (mu : Store) (ds : List Dat) (r : Res), Ex B B1 ∧ th <+: th1 ∧ SRc K B1 H th1 mu ∧ Reps K B1 th1 ds vs ∧ F ds mu = some r ∧ endOf K xa B1 H th1 r Q E
theorem spAt.later {K : PySem.W.Frag} {xa : Nat → Addr} {B B' : Hp} {th th' : List Addr} {ar : Nat} {F : Fn} (e : Ex B B') (p : th <+: th') {vs : List V} {H : Hp} {Q : VK} {E : XK} (h : spAt K xa B' th' ar F vs H Q E) : spAt K xa B th ar F vs H Q E := by
  obtain ⟨h0, B1, th1, mu, ds, r, h1, h2, h3⟩ := h
  exact ⟨h0, B1, th1, mu, ds, r, e.trans h1, p.trans h2, h3⟩
/-- the promise of a def that takes a function, last -/
structure HfOk (P : Program) (w : World) (K : PySem.W.Frag) (mg : Str → Option Value) (base : Heap) (k : Nat) (g : Addr) (xa : Nat → Addr) (ar : Nat) (HF : Addr → Fn → Fn) : Prop where
  run : ∀ (A : Around) (outer : List PySem.Env) (s : Shared) (H : Hp) (f : Addr) (F : NdefX.NF) (body : Expr) (clo : Fn) (ds : List Dat) (us : List Value) (vs : List V) (B : Hp) (th : List Addr) (mu : Store) (r : Res) (Q : VK) (E : XK), Room k A → Env0 P w K mg base A outer s H → Vals vs us →
    SRc K B H th mu → Reps K B th ds vs → ds.length + 1 = ar → B f = some (LamO f F body) → Hof P w K mg base (frs outer) s H f 1 (spAt K xa B th 1 clo) → HF f clo ds mu = some r → endOf K xa B H th r Q E →
    codeAny (model P w) A (.call (.ref g) ⟨us ++ [.ref f], []⟩) (CR (L2.CX P w) outer P w H s Q E) s
theorem HfOk.mono {P : Program} {w : World} {K : PySem.W.Frag} {mg : Str → Option Value} {base : Heap} {j k : Nat} {g : Addr} {xa : Nat → Addr} {ar : Nat} {HF : Addr → Fn → Fn} (h : HfOk P w K mg base j g xa ar HF) (q : j ≤ k) : HfOk P w K mg base k g xa ar HF :=
  ⟨fun A outer s H f F body clo ds us vs B th mu r Q E hr => h.run A outer s H f F body clo ds us vs B th mu r Q E (hr.mono q)⟩
/-- what is known of the module -/
structure GOk (P : Program) (w : World) (K : PySem.W.Frag) (mg : Str → Option Value) (base : Heap) (k : Nat) (G : Gam) (nm : Nms) (xa : Nat → Addr) : Prop where
  fn : ∀ f F, G.fn f = some F → ∃ (a : Addr) (fd : FuncData) (ps : List Str), mg (nm.fn f) = some (.ref a) ∧ PySem.W.keepIn K (.ref a) = true ∧ Binds K fd ps [] ∧ ps.length = G.ar f ∧
    FnOk P w K mg base (L2.CX P w) k a fd ps (spOf K xa (G.ar f) F)
  gc : ∀ g i, G.gc g = some i → ∃ t, mg (nm.gc g) = some (.int i t)
  bt : ∀ x ∈ bltAll, mg x = none
  me : ∀ m F, G.me m = some F → ∃ (C a : Addr) (fd : FuncData) (ps : List Str) (j : Nat), EdC K C ∧ (if m = 0 then L2.Mk K C a ∧ j + 1 ≤ k else Meth K C (mName m) a ∧ j ≤ k) ∧ Binds K fd ps [] ∧ ps.length = mAr m ∧
    FnOk P w K mg base (L2.CX P w) j a fd ps (spOf K xa (mAr m) F)
  ed : G.ed = true → ∀ C, EdC K C → Cls K C ∧ NoAttr K C "states" ∧ mg "Editor" = some (.ref C)
  em : ∀ m F, G.me m = some F → G.ed = true
  hf : ∀ g HF, G.hf g = some HF → ∃ a : Addr, mg (nm.fn g) = some (.ref a) ∧ PySem.W.keepIn K (.ref a) = true ∧ HfOk P w K mg base k a xa (G.ar g) HF
/-- where an expression stands -/
structure Ctx (X : Cx) (N : List Str) (sc : Scope) (k : Nat) (G : Gam) (nm : Nms) (xa : Nat → Addr) : Prop where
  hN : X.N = N
  nd : N.Nodup
  hsc : X.env.scope = sc
  calm : X.calm = true
  room : Room k X.A
  g : GOk X.prog X.w X.K X.mg X.base k G nm xa
end Lin

/-! Lin, part D: expressions compute what ev says. -/
namespace Lin
open PySem PySem.Spec PyProof.Rows L2

def RepH (K : PySem.W.Frag) (B : Hp) (th : List Addr) (sg : L2.St) : Hd → V → Prop
  | .dat d, v => Rep K B th d v
  | .own i, v => sg[i]? = some (some v)
/-- readings: a value; a test; arguments; a slice's bound -/
def tV (K : PySem.W.Frag) (rho : Env) (mu : Store) (h : Hd) (mu' : Store) : TE := fun sg H Q => ∃ B th, SR K B H th mu rho sg ∧
  ∀ v B' H' th', SRc K B' H' th' mu' → Fut B H th B' H' th' → RepH K B' th' sg h v → Q v H'
def tTs (K : PySem.W.Frag) (rho : Env) (mu : Store) (b : Bool) (mu' : Store) : TT := fun sg H Q => ∃ B th, SR K B H th mu rho sg ∧
  ∀ B' H' th', SRc K B' H' th' mu' → Fut B H th B' H' th' → Q b H'
def tAr (K : PySem.W.Frag) (rho : Env) (mu : Store) (ds : List Dat) (mu' : Store) : TA := fun sg H Q => ∃ B th, SR K B H th mu rho sg ∧
  ∀ vs B' H' th', SRc K B' H' th' mu' → Fut B H th B' H' th' → Reps K B' th' ds vs → Q vs H'
/-- a new list, not told to anybody yet -/
def tF (K : PySem.W.Frag) (rho : Env) (mu : Store) (ds : List Dat) (mu' : Store) : TE := fun sg H Q => ∃ B th, SR K B H th mu rho sg ∧
  ∀ p vs B' H' th', SRc K B' H' th' mu' → Fut B H th B' H' th' → H p = none → B' p = none → p ∉ th' → H' p = some (.lst vs) → Reps K B' th' ds vs → Q (.ref p) H'

section
variable {X : Cx} {x y z : Expr} {t t' : TE} {pos : Pos}
theorem pe_mono (h : PE X x t) (hm : ∀ sg H Q, t' sg H Q → t sg H Q) : PE X x t' := ⟨fun pins s sg H Q I q => h.run pins s sg H Q I (hm _ _ _ q)⟩
theorem pt_mono {t t' : TT} (h : PT X x t) (hm : ∀ sg H Q, t' sg H Q → t sg H Q) : PT X x t' := ⟨fun pins s sg H Q I q => h.run pins s sg H Q I (hm _ _ _ q)⟩
theorem pw_mono {t t' : TT} (h : PW X x t) (hm : ∀ sg H Q, t' sg H Q → t sg H Q) : PW X x t' := ⟨fun wh pins s sg H Q I q => h.run wh pins s sg H Q I (hm _ _ _ q)⟩
theorem pa_mono {xs : List Expr} {t t' : TA} (h : PA X xs t) (hm : ∀ sg H Q, t' sg H Q → t sg H Q) : PA X xs t' := ⟨fun pos pins s sg H Q I q => h.run pos pins s sg H Q I (hm _ _ _ q)⟩
/-- a fresh list is taken to stand for good -/
theorem pe_keep {K : PySem.W.Frag} {rho : Env} {mu mu' : Store} {ds : List Dat} (h : PE X x (tF K rho mu ds mu')) : PE X x (tV K rho mu (.dat (.lst ds)) mu') :=
  pe_mono h fun sg H Q ⟨B, th, sr, q⟩ => ⟨B, th, sr, fun p vs B' H' th' sc f hn hb hp hl hr => by
    have e : Ex B' (upd B' p (.lst vs)) := Ex.new hb
    refine q _ (upd B' p (.lst vs)) H' th' (sc.keep hl hb hp) ⟨f.ex.trans e, f.pre, f.fr, f.nw, fun a ha => ?_, f.dom, f.tp⟩ (.lst (.inl (.inl upd_same)) (hr.mono e (List.prefix_refl _)))
    by_cases z : a = p
    · subst z; exact .inr (.inl hn)
    · rw [upd_ne z] at ha; exact f.bn a ha⟩
end

/-! ### what mE says of the text's form -/
section
variable {nm : Nms} {N : List Str} {sc : Scope} {e : E} {x : Expr}
theorem mE_form (h : mE nm N sc e x = true) : (∀ es env, starEach (x :: es) env = (false, eval x env) :: starEach es env) ∧ (∀ env v, foldedSetIterable x env v = pure v) ∧ PlainIx x ∧ (∀ op, behindInMarks op x = false) := by
  cases x with
  | BoolOp _ _ _ => exact ⟨fun _ _ => rfl, fun _ _ => rfl, fun _ _ => rfl, fun _ => rfl⟩
  | BinOp _ _ _ _ => exact ⟨fun _ _ => rfl, fun _ _ => rfl, fun _ _ => rfl, fun _ => rfl⟩
  | UnaryOp _ _ _ => exact ⟨fun _ _ => rfl, fun _ _ => rfl, fun _ _ => rfl, fun _ => rfl⟩
  | IfExp _ _ _ _ => exact ⟨fun _ _ => rfl, fun _ _ => rfl, fun _ _ => rfl, fun _ => rfl⟩
  | ListComp _ _ _ _ => exact ⟨fun _ _ => rfl, fun _ _ => rfl, fun _ _ => rfl, fun _ => rfl⟩
  | Compare _ _ _ _ => exact ⟨fun _ _ => rfl, fun _ _ => rfl, fun _ _ => rfl, fun _ => rfl⟩
  | Call _ _ _ _ => exact ⟨fun _ _ => rfl, fun _ _ => rfl, fun _ _ => rfl, fun _ => rfl⟩
  | Constant _ _ _ => exact ⟨fun _ _ => rfl, fun _ _ => rfl, fun _ _ => rfl, fun _ => rfl⟩
  | Subscript _ _ _ => exact ⟨fun _ _ => rfl, fun _ _ => rfl, fun _ _ => rfl, fun _ => rfl⟩
  | Attribute _ _ _ => exact ⟨fun _ _ => rfl, fun _ _ => rfl, fun _ _ => rfl, fun _ => rfl⟩
  | Name _ _ => exact ⟨fun _ _ => rfl, fun _ _ => rfl, fun _ _ => rfl, fun _ => rfl⟩
  | List _ _ => exact ⟨fun _ _ => rfl, fun _ _ => rfl, fun _ _ => rfl, fun _ => rfl⟩
  | Tuple _ _ _ => exact ⟨fun _ _ => rfl, fun _ _ => rfl, fun _ _ => rfl, fun _ => rfl⟩
  | _ => cases e <;> exact Bool.noConfusion (show false = true from h)
theorem mEs_cons {xs : List Expr} (h : mEs nm N sc e (x :: xs) = true) : ∃ a r, e = .acons a r ∧ mE nm N sc a x = true ∧ mEs nm N sc r xs = true := by
  cases e with
  | acons a r =>
    have h' : (mE nm N sc a x && mEs nm N sc r xs) = true := h
    rw [Bool.and_eq_true] at h'
    exact ⟨a, r, rfl, h'.1, h'.2⟩
  | _ => exact Bool.noConfusion (show false = true from h)
theorem mEs_nil (h : mEs nm N sc e [] = true) : e = .anil := by
  cases e with
  | anil => rfl
  | _ => exact Bool.noConfusion (show false = true from h)
theorem mEs_plain {env : PySem.Env} {pos : Pos} : ∀ {xs : List Expr} {e : E}, mEs nm N sc e xs = true → (backTo pos (starEach xs env)).any (·.1) = false
  | [], _, _ => rfl
  | x :: xs, e, h => by
    obtain ⟨a, r, rfl, h1, h2⟩ := mEs_cons h
    rw [(mE_form h1).1]
    have ih := mEs_plain (env := env) (pos := pos) h2
    unfold backTo at ih ⊢
    rw [List.map_cons, List.any_cons]
    exact ih
end
end Lin

/-! Lin, part E: the operations on values. -/
namespace Lin
open PySem PySem.Spec PyProof.Rows L2

theorem cap_le : cap ≤ sizeLine := by decide
theorem le_line {n : Nat} (h : n ≤ cap) : n ≤ sizeLine := Nat.le_trans h cap_le
section
variable {K : PySem.W.Frag} {B B' H H' : Hp} {th th' : List Addr} {mu mu' : Store} {rho : Env} {sg : L2.St} {h : Hd} {v : V}
theorem RepH.fut (r : RepH K B th sg h v) (f : Fut B H th B' H' th') : RepH K B' th' sg h v := by
  cases h with
  | dat d => exact Rep.mono f.ex f.pre r
  | own i => exact r
theorem cell_of {i : Nat} {c : Cell} (e : rho.cell i = some c) : rho[i]? = some (some (.own c)) := by
  unfold Env.cell at e
  split at e
  · rename_i q; rw [q, Option.some.inj e]
  · cases e
theorem seqL_sound (s : SR K B H th mu rho sg) (r : RepH K B th sg h v) {ds : List Dat} (e : seqL rho mu h = some ds) : ∃ a vs, v = .ref a ∧ SqL K H a vs ∧ Reps K B th ds vs := by
  cases h with
  | dat d =>
    cases d with
    | lst xs =>
      cases e
      cases r with
      | lst h1 h2 => exact ⟨_, _, rfl, s.ex.sl h1, h2⟩
    | ref n =>
      cases r with
      | ref hn =>
        have e' : (match mu[n]? with | some (.lst ds) => some ds | _ => none) = some ds := e
        split at e'
        · rename_i xs q
          cases e'
          obtain ⟨a, o, h1, h2, h3, h4⟩ := s.cell n _ q
          rw [hn] at h1
          cases h1
          cases h4 with
          | lst h5 => exact ⟨_, _, rfl, .inl (.inl h3), h5⟩
        · cases e'
    | _ => cases e
  | own i =>
    have e' : (match rho.cell i with | some (.lst ds) => some ds | _ => none) = some ds := e
    split at e'
    · rename_i xs q
      cases e'
      obtain ⟨a, o, h1, h2, h3, h4, h5⟩ := s.own i _ (cell_of q)
      have r' : sg[i]? = some (some v) := r
      rw [h1] at r'
      cases r'
      cases h5 with
      | lst h6 => exact ⟨_, _, rfl, .inl (.inl h4), h6⟩
    · cases e'
theorem seqT_sound (s : SR K B H th mu rho sg) (r : RepH K B th sg h v) {ds : List Dat} (e : seqT h = some ds) : ∃ a vs, v = .ref a ∧ SqT K H a vs ∧ Reps K B th ds vs := by
  cases h with
  | dat d =>
    cases d with
    | tup xs =>
      cases e
      cases r with
      | tup h1 h2 => exact ⟨_, _, rfl, .inl (.inl (s.ex _ _ h1)), h2⟩
    | _ => cases e
  | own i => cases e
theorem seqA_sound (s : SR K B H th mu rho sg) (r : RepH K B th sg h v) {ds : List Dat} (e : seqA rho mu h = some ds) : ∃ a vs, v = .ref a ∧ (SqL K H a vs ∨ SqT K H a vs) ∧ Reps K B th ds vs := by
  by_cases q : ∃ xs, h = .dat (.tup xs)
  · obtain ⟨xs, rfl⟩ := q
    cases e
    obtain ⟨a, vs, h1, h2, h3⟩ := seqT_sound (h := .dat (.tup ds)) s r rfl
    exact ⟨a, vs, h1, .inr h2, h3⟩
  · have e2 : seqA rho mu h = seqL rho mu h := by
      cases h with
      | own i => rfl
      | dat d =>
        cases d with
        | tup xs => exact absurd ⟨xs, rfl⟩ q
        | _ => rfl
    rw [e2] at e
    obtain ⟨a, vs, h1, h2, h3⟩ := seqL_sound s r e
    exact ⟨a, vs, h1, .inl h2, h3⟩

/-! ### comparable data -/
mutual
theorem rep_dp (ex : Ex B H) : ∀ {d : Dat} {v : V} {p : PyData}, Rep K B th d v → pd d = some p → Dp K H v p
  | _, _, _, .non, e => by cases e; exact .non
  | _, _, _, .bl b, e => by cases e; exact .bl b
  | _, _, _, .int i, e => by cases e; exact .int i
  | _, _, _, .str x, e => by
    have e' : (if PySem.PyData.strOk x = true then some (PyData.str x) else none) = some _ := e
    split at e'
    · cases e'; exact .str x
    · cases e'
  | .tup ds, _, _, .tup h r, e => by
    have e' : (pds ds).map PyData.tuple = some _ := e
    cases q : pds ds with
    | none => rw [q] at e'; cases e'
    | some ps => rw [q] at e'; cases e'; exact .tup (.inl (.inl (ex _ _ h))) (reps_dp ex r q)
  | .lst ds, _, _, .lst h r, e => by
    have e' : (pds ds).map PyData.list = some _ := e
    cases q : pds ds with
    | none => rw [q] at e'; cases e'
    | some ps => rw [q] at e'; cases e'; exact .lst (ex.sl h) (reps_dp ex r q)
  | _, _, _, .ref h, e => by cases e
theorem reps_dp (ex : Ex B H) : ∀ {ds : List Dat} {vs : List V} {ps : List PyData}, Reps K B th ds vs → pds ds = some ps → DpAll K H vs ps
  | _, _, _, .nil, e => by cases e; exact .nil
  | d :: ds, _, _, .cons r t, e => by
    have e' : (match pd d, pds ds with | some x, some xs => some (x :: xs) | _, _ => none) = some _ := e
    cases q1 : pd d with
    | none => rw [q1] at e'; cases e'
    | some p =>
      cases q2 : pds ds with
      | none => rw [q1, q2] at e'; cases e'
      | some ps => rw [q1, q2] at e'; cases e'; exact .cons (rep_dp ex r q1) (reps_dp ex t q2)
end
mutual
theorem pd_lay : ∀ {d : Dat} {p : PyData}, pd d = some p → p.canLay0 = true
  | .non, _, e => by cases e; rfl
  | .bl _, _, e => by cases e; rfl
  | .int _, _, e => by cases e; rfl
  | .str x, _, e => by
    have e' : (if PySem.PyData.strOk x = true then some (PyData.str x) else none) = some _ := e
    split at e'
    · rename_i q; cases e'; simpa [PyData.canLay0] using q
    · cases e'
  | .tup ds, _, e => by
    have e' : (pds ds).map PyData.tuple = some _ := e
    cases q : pds ds with
    | none => rw [q] at e'; cases e'
    | some ps => rw [q] at e'; cases e'; simpa [PyData.canLay0] using pds_lay q
  | .lst ds, _, e => by
    have e' : (pds ds).map PyData.list = some _ := e
    cases q : pds ds with
    | none => rw [q] at e'; cases e'
    | some ps => rw [q] at e'; cases e'; simpa [PyData.canLay0] using pds_lay q
  | .ref _, _, e => by cases e
theorem pds_lay : ∀ {ds : List Dat} {ps : List PyData}, pds ds = some ps → PyData.canLayAll0 ps = true
  | [], _, e => by cases e; rfl
  | d :: ds, _, e => by
    have e' : (match pd d, pds ds with | some x, some xs => some (x :: xs) | _, _ => none) = some _ := e
    cases q1 : pd d with
    | none => rw [q1] at e'; cases e'
    | some p =>
      cases q2 : pds ds with
      | none => rw [q1, q2] at e'; cases e'
      | some ps => rw [q1, q2] at e'; cases e'; simp [PyData.canLayAll0, pd_lay q1, pds_lay q2]
end
theorem now_dp (s : SR K B H th mu rho sg) (r : RepH K B th sg h v) {d : Dat} {p : PyData} (e : now rho mu h = some d) (q : pd d = some p) : Dp K H v p := by
  unfold now at e
  cases z : seqL rho mu h with
  | some ds =>
    rw [z] at e
    cases e
    obtain ⟨a, vs, rfl, h2, h3⟩ := seqL_sound s r z
    have q' : (pds ds).map PyData.list = some p := q
    cases y : pds ds with
    | none => rw [y] at q'; cases q'
    | some ps => rw [y] at q'; cases q'; exact .lst h2 (reps_dp s.ex h3 y)
  | none =>
    rw [z] at e
    cases h with
    | dat d' => cases e; exact rep_dp s.ex r q
    | own i => cases e
theorem eqD_inv {x y : Dat} {b : Bool} (e : eqD x y = some b) : ∃ p q, pd x = some p ∧ pd y = some q ∧ SeqAt.shaped p = true ∧ SeqAt.shaped q = true ∧ b = PyData.eqv p q := by
  unfold eqD at e
  split at e
  · rename_i p q h1 h2
    split at e
    · rename_i hd
      cases e
      refine ⟨p, q, h1, h2, ?_, ?_, rfl⟩
      · unfold SeqAt.shaped; rw [pd_lay h1, decide_eq_true hd.1]; rfl
      · unfold SeqAt.shaped; rw [pd_lay h2, decide_eq_true hd.2]; rfl
    · cases e
  · cases e
end

/-! ### comparisons -/
section
variable {X : Cx} {N : List Str} {sc : Scope} {k : Nat} {G : Gam} {nm : Nms} {xa : Nat → Addr}
/-- a comparison's rule, the values known -/
def CmpR (X : Cx) (p : CmpOp) (mu : Store) (rho : Env) (hx hy : Hd) (b : Bool) : Prop :=
  ∃ r : R2, OpR X (compareOp p) r ∧ ∀ (B H : Hp) (th : List Addr) (sg : L2.St) (v u : V) (Q : VK), SR X.K B H th mu rho sg → RepH X.K B th sg hx v → RepH X.K B th sg hy u → Q (.bl b) H → r v u H Q
theorem map_not {o : Option Bool} {b : Bool} (h : o.map (!·) = some b) : o = some (!b) := by
  cases o with
  | none => cases h
  | some c => cases h; simp
theorem isD_non {x y : Dat} {b : Bool} (h : isD x y = some b) : (y = .non ∧ b = isNon x) ∨ (∃ c d, x = .bl c ∧ y = .bl d ∧ b = (c == d)) ∨ ∃ d, (∀ c, x ≠ .bl c) ∧ y = .bl d ∧ b = false := by
  cases y with
  | non =>
    have h' : some (isNon x) = some b := by cases x <;> exact h
    exact .inl ⟨rfl, (Option.some.inj h').symm⟩
  | bl d =>
    cases x with
    | bl c => cases h; exact .inr (.inl ⟨c, d, rfl, rfl, rfl⟩)
    | _ => cases h; exact .inr (.inr ⟨d, (fun c e => nomatch e), rfl, rfl⟩)
  | _ => cases x <;> cases h
theorem rep_notBl {K : PySem.W.Frag} {B : Hp} {th : List Addr} {x : Dat} {v : V} (r : Rep K B th x v) (h : ∀ c, x ≠ .bl c) : notBl v = true := by
  cases r with
  | bl b => exact absurd rfl (h b)
  | _ => rfl
theorem isNon_V {K : PySem.W.Frag} {B : Hp} {th : List Addr} {x : Dat} {v : V} (r : Rep K B th x v) : decide (v = .non) = isNon x := by
  cases r <;> rfl
theorem dicOf_sound {K : PySem.W.Frag} {B H : Hp} {th : List Addr} {mu : Store} {rho : Env} {sg : L2.St} {h : Hd} {v : V} (s : SR K B H th mu rho sg) (r : RepH K B th sg h v) {t : Bool} {kvs : List (Dat × Dat)} (e : dicOf rho mu h = some (t, kvs)) :
    ∃ a, v = .ref a ∧ ((t = false ∧ ∃ ws, H a = some (.dK ws) ∧ DRepK K B th kvs ws) ∨ (t = true ∧ ∃ ws, H a = some (.dT ws) ∧ DRepT K B th kvs ws)) := by
  cases h with
  | dat d =>
    cases d with
    | ref n =>
      cases r with
      | ref hn =>
        have e' : (match mu[n]? with | some (.dic t ds) => some (t, ds) | _ => none) = some (t, kvs) := e
        split at e'
        · rename_i t' xs q
          cases e'
          obtain ⟨a, o, h1, h2, h3, h4⟩ := s.cell n _ q
          rw [hn] at h1
          cases h1
          cases h4 with
          | dicK h5 => exact ⟨_, rfl, .inl ⟨rfl, _, h3, h5⟩⟩
          | dicT h5 => exact ⟨_, rfl, .inr ⟨rfl, _, h3, h5⟩⟩
        · cases e'
    | _ => cases e
  | own i =>
    have e' : (match rho.cell i with | some (.dic t ds) => some (t, ds) | _ => none) = some (t, kvs) := e
    split at e'
    · rename_i t' xs q
      cases e'
      obtain ⟨a, o, h1, h2, h3, h4, h5⟩ := s.own i _ (cell_of q)
      have r' : sg[i]? = some (some v) := r
      rw [h1] at r'
      cases r'
      cases h5 with
      | dicK h6 => exact ⟨_, rfl, .inl ⟨rfl, _, h4, h6⟩⟩
      | dicT h6 => exact ⟨_, rfl, .inr ⟨rfl, _, h4, h6⟩⟩
    · cases e'
theorem keyD_inj {k j : Key} (h : keyD k = keyD j) : k = j := by
  cases k <;> cases j <;> cases h <;> rfl
theorem keyD_map_inj : ∀ {k j : List Key}, k.map keyD = j.map keyD → k = j
  | [], [], _ => rfl
  | [], _ :: _, h => by cases h
  | _ :: _, [], h => by cases h
  | a :: k, b :: j, h => by
    rw [List.map_cons, List.map_cons] at h
    injection h with h1 h2
    rw [keyD_inj h1, keyD_map_inj h2]
theorem flat_key {d : Dat} (h : flatKey d = true) : ∃ k, d = keyD k := by
  cases d with
  | int i => exact ⟨.inl i, rfl⟩
  | str x => exact ⟨.inr x, rfl⟩
  | _ => cases h
theorem flat_keys : ∀ {ds : List Dat}, ds.all flatKey = true → ∃ ks : List Key, ds = ks.map keyD
  | [], _ => ⟨[], rfl⟩
  | d :: ds, h => by
    rw [List.all_cons, Bool.and_eq_true] at h
    obtain ⟨k, rfl⟩ := flat_key h.1
    obtain ⟨ks, rfl⟩ := flat_keys h.2
    exact ⟨k :: ks, rfl⟩
theorem dfindK {K : PySem.W.Frag} {B : Hp} {th : List Addr} (k : Key) : ∀ {kvs : List (Dat × Dat)} {ws : List (Key × V)}, DRepK K B th kvs ws →
    (dfind kvs (keyD k) = none ∧ valV ws k = none) ∨ ∃ d v, dfind kvs (keyD k) = some d ∧ valV ws k = some v ∧ Rep K B th d v
  | _, _, .nil => .inl ⟨rfl, rfl⟩
  | _, _, .cons (k := j) (d := d) (v := v) (kvs := kvs) (ws := ws) r t => by
    by_cases e : j = k
    · subst e
      exact .inr ⟨d, v, by simp [dfind], by simp [valV], r⟩
    · have e' : ¬ keyD j = keyD k := fun z => e (keyD_inj z)
      have a1 : dfind ((keyD j, d) :: kvs) (keyD k) = dfind kvs (keyD k) := by simp [dfind, List.find?_cons, e']
      have a2 : valV ((j, v) :: ws) k = valV ws k := valV_neg e
      rw [a1, a2]
      exact dfindK k t
theorem dfindT {K : PySem.W.Frag} {B : Hp} {th : List Addr} (k : List Key) : ∀ {kvs : List (Dat × Dat)} {ws : List (List Key × V)}, DRepT K B th kvs ws →
    (dfind kvs (.tup (k.map keyD)) = none ∧ valV ws k = none) ∨ ∃ d v, dfind kvs (.tup (k.map keyD)) = some d ∧ valV ws k = some v ∧ Rep K B th d v
  | _, _, .nil => .inl ⟨rfl, rfl⟩
  | _, _, .cons (k := j) (d := d) (v := v) (kvs := kvs) (ws := ws) r t => by
    by_cases e : j = k
    · subst e
      exact .inr ⟨d, v, by simp [dfind], by simp [valV], r⟩
    · have e' : ¬ Dat.tup (j.map keyD) = Dat.tup (k.map keyD) := fun z => e (keyD_map_inj (Dat.tup.inj z))
      have a1 : dfind ((.tup (j.map keyD), d) :: kvs) (.tup (k.map keyD)) = dfind kvs (.tup (k.map keyD)) := by simp [dfind, List.find?_cons, e']
      have a2 : valV ((j, v) :: ws) k = valV ws k := valV_neg e
      rw [a1, a2]
      exact dfindT k t
theorem Reps.keys {K : PySem.W.Frag} {B : Hp} {th : List Addr} : ∀ {ks : List Key} {vs : List V}, Reps K B th (ks.map keyD) vs → vs = ks.map kV
  | [], _, h => by cases h; rfl
  | k :: ks, _, h => by
    rw [List.map_cons] at h
    cases h with
    | cons r t =>
      rw [Reps.keys t, List.map_cons]
      cases k with
      | inl i => cases r; rfl
      | inr x => cases r; rfl
theorem rep_key {K : PySem.W.Frag} {B : Hp} {th : List Addr} {k : Key} {v : V} (r : Rep K B th (keyD k) v) : v = kV k := by
  cases k with
  | inl i => cases r; rfl
  | inr x => cases r; rfl
/-- what the dict gives at a key -/
theorem dict_get {K : PySem.W.Frag} {B H : Hp} {th : List Addr} {mu : Store} {rho : Env} {sg : L2.St} {h : Hd} {v u : V} {k : Dat} (s : SR K B H th mu rho sg) (r : RepH K B th sg h v) (rk : Rep K B th k u) {t : Bool} {kvs : List (Dat × Dat)}
    (e : dicOf rho mu h = some (t, kvs)) (hk : keyFor t k = true) : ∃ a o, v = .ref a ∧ DGet H a u o ∧ ((dfind kvs k = none ∧ o = none) ∨ ∃ d z, dfind kvs k = some d ∧ o = some z ∧ Rep K B th d z) := by
  obtain ⟨a, rfl, ⟨rfl, ws, h1, h2⟩ | ⟨rfl, ws, h1, h2⟩⟩ := dicOf_sound s r e
  · have fk : flatKey k = true := by
      cases k with
      | tup ds => cases hk
      | _ => simpa [keyFor] using hk
    obtain ⟨j, rfl⟩ := flat_key fk
    rw [rep_key rk]
    exact ⟨a, _, rfl, .k h1, dfindK j h2⟩
  · cases k with
    | tup ds =>
      have fk : ds.all flatKey = true := by simpa [keyFor] using hk
      obtain ⟨ks, rfl⟩ := flat_keys fk
      cases rk with
      | tup e1 e2 =>
        rw [e2.keys] at e1
        exact ⟨a, _, rfl, .t h1 (s.ex _ _ e1), dfindT ks h2⟩
    | _ => cases hk
theorem memD_inv {rho : Env} {mu : Store} {x y : Hd} {b : Bool} (h : memD rho mu x y = some b) :
    (∃ (i : Int) (ds : List Dat) (ns : List Int), x = .dat (.int i) ∧ seqA rho mu y = some ds ∧ ds = ns.map Dat.int ∧ b = decide (i ∈ ns)) ∨
    ∃ (k : Dat) (t : Bool) (kvs : List (Dat × Dat)), x = .dat k ∧ dicOf rho mu y = some (t, kvs) ∧ keyFor t k = true ∧ b = (dfind kvs k).isSome := by
  unfold memD at h
  split at h
  · rename_i ds h1
    split at h
    · rename_i i
      cases q : ints? ds with
      | none => rw [q] at h; cases h
      | some ns =>
        rw [q] at h
        cases h
        exact .inl ⟨i, ds, ns, rfl, h1, ints?_some q, rfl⟩
    · cases h
  · split at h
    · rename_i t kvs k h2
      split at h
      · rename_i hk
        cases h
        exact .inr ⟨k, t, kvs, rfl, h2, hk, rfl⟩
      · cases h
    · cases h
theorem op_din {X : Cx} (hu : X.A.units + 1 < cLine) : OpR X (compareOp .In) (fun y x H Q => ∃ a o, x = .ref a ∧ DGet H a y o ∧ Q (.bl o.isSome) H) := by
  intro pins s sg H y x iv u Q I ry rx q
  obtain ⟨a, o, rfl, g, q⟩ := q
  obtain rfl : u = Value.ref a := rx
  exact d_in hu I g ry fun s3 I3 => ⟨.bl o.isSome, H, I3, rfl, q⟩
theorem op_dnin {X : Cx} (hu : X.A.units + 1 < cLine) : OpR X (compareOp .NotIn) (fun y x H Q => ∃ a o, x = .ref a ∧ DGet H a y o ∧ Q (.bl (!o.isSome)) H) := by
  intro pins s sg H y x iv u Q I ry rx q
  obtain ⟨a, o, rfl, g, q⟩ := q
  obtain rfl : u = Value.ref a := rx
  exact d_notIn hu I g ry fun s3 I3 => ⟨.bl (!o.isSome), H, I3, rfl, q⟩
theorem inV_ints {i : Int} : ∀ {ns : List Int}, inV (.int i) (ns.map V.int) = decide (i ∈ ns)
  | [] => rfl
  | n :: ns => by
    have ih := inV_ints (i := i) (ns := ns)
    unfold inV at ih ⊢
    rw [List.map_cons, List.any_cons, ih]
    have e : eqV (.int n) (.int i) = decide (i = n) := by
      show (n == i) = decide (i = n)
      rw [Bool.eq_iff_iff]
      simp only [beq_iff_eq, decide_eq_true_eq]
      exact ⟨fun h => h.symm, fun h => h.symm⟩
    rw [e, Bool.eq_iff_iff]
    simp
theorem flat_ints : ∀ {ns : List Int}, (ns.map V.int).all flatV = true
  | [] => rfl
  | n :: ns => by
    rw [List.map_cons, List.all_cons, flat_ints]
    rfl
theorem cmp_rule (hc : Ctx X N sc k G nm xa) {o : COp} {p : CmpOp} (hp : mCmp o p = true) {rho : Env} {mu : Store} {hx hy : Hd} {b : Bool} (h : cmpD rho mu o hx hy = some b) : CmpR X p mu rho hx hy b := by
  have hints : ∀ {o' : COp}, cmpII o' hx hy = some b → ∃ i j, hx = .dat (.int i) ∧ hy = .dat (.int j) ∧ cmpI o' i j = some b := fun {o'} e => by
    unfold cmpII at e
    split at e
    · exact ⟨_, _, rfl, rfl, e⟩
    · cases e
  cases o with
  | eq =>
    cases p <;> first | exact Bool.noConfusion (show false = true from hp) | skip
    have h' : (match now rho mu hx, now rho mu hy with | some a, some b => eqD a b | _, _ => none) = some b := h
    split at h'
    · rename_i a c h1 h2
      obtain ⟨p, q, e1, e2, e3, e4, rfl⟩ := eqD_inv h'
      exact ⟨_, op_eqD hc.room.units, fun B H th sg v u Q s rx ry q' => ⟨p, q, now_dp s rx h1 e1, now_dp s ry h2 e2, e3, e4, q'⟩⟩
    · cases h'
  | ne =>
    cases p <;> first | exact Bool.noConfusion (show false = true from hp) | skip
    have h' : (match now rho mu hx, now rho mu hy with | some a, some b => (eqD a b).map (!·) | _, _ => none) = some b := h
    split at h'
    · rename_i a c h1 h2
      obtain ⟨p, q, e1, e2, e3, e4, e5⟩ := eqD_inv (map_not h')
      exact ⟨_, op_neD hc.room.units, fun B H th sg v u Q s rx ry q' => ⟨p, q, now_dp s rx h1 e1, now_dp s ry h2 e2, e3, e4, by rw [← e5, Bool.not_not]; exact q'⟩⟩
    · cases h'
  | lt =>
    cases p <;> first | exact Bool.noConfusion (show false = true from hp) | skip
    obtain ⟨i, j, rfl, rfl, e⟩ := hints (o' := .lt) h
    cases e
    exact ⟨_, op_lt, fun B H th sg v u Q s rx ry q' => by cases rx; cases ry; exact ⟨i, j, rfl, rfl, q'⟩⟩
  | le =>
    cases p <;> first | exact Bool.noConfusion (show false = true from hp) | skip
    obtain ⟨i, j, rfl, rfl, e⟩ := hints (o' := .le) h
    cases e
    exact ⟨_, op_le, fun B H th sg v u Q s rx ry q' => by cases rx; cases ry; exact ⟨i, j, rfl, rfl, q'⟩⟩
  | gt =>
    cases p <;> first | exact Bool.noConfusion (show false = true from hp) | skip
    obtain ⟨i, j, rfl, rfl, e⟩ := hints (o' := .gt) h
    cases e
    exact ⟨_, op_gt, fun B H th sg v u Q s rx ry q' => by cases rx; cases ry; exact ⟨i, j, rfl, rfl, q'⟩⟩
  | ge =>
    cases p <;> first | exact Bool.noConfusion (show false = true from hp) | skip
    obtain ⟨i, j, rfl, rfl, e⟩ := hints (o' := .ge) h
    cases e
    exact ⟨_, op_ge, fun B H th sg v u Q s rx ry q' => by cases rx; cases ry; exact ⟨i, j, rfl, rfl, q'⟩⟩
  | is =>
    cases p <;> first | exact Bool.noConfusion (show false = true from hp) | skip
    have h' : (match hx.d, hy.d with | some a, some b => isD a b | _, _ => none) = some b := h
    cases hx with
    | own i => cases h'
    | dat x =>
      cases hy with
      | own i => cases h'
      | dat y =>
        rcases isD_non h' with ⟨rfl, rfl⟩ | ⟨c, d, rfl, rfl, rfl⟩ | ⟨d, hn, rfl, rfl⟩
        rotate_right
        · exact ⟨_, op_isXB, fun B H th sg v u Q s rx ry q' => by cases ry; exact ⟨d, rfl, rep_notBl rx hn, q'⟩⟩
        · exact ⟨_, op_isN, fun B H th sg v u Q s rx ry q' => by cases ry; exact ⟨rfl, by rw [isNon_V rx]; exact q'⟩⟩
        · exact ⟨_, op_isBl, fun B H th sg v u Q s rx ry q' => by cases rx; cases ry; exact ⟨c, d, rfl, rfl, by rw [← Bool.beq_eq_decide_eq]; exact q'⟩⟩
  | isn =>
    cases p <;> first | exact Bool.noConfusion (show false = true from hp) | skip
    have h' : (match hx.d, hy.d with | some a, some b => (isD a b).map (!·) | _, _ => none) = some b := h
    cases hx with
    | own i => cases h'
    | dat x =>
      cases hy with
      | own i => cases h'
      | dat y =>
        rcases isD_non (map_not h') with ⟨rfl, e⟩ | ⟨c, d, rfl, rfl, e⟩ | ⟨d, hn, rfl, e⟩
        rotate_right
        · exact ⟨_, op_notXB, fun B H th sg v u Q s rx ry q' => by
            cases ry
            have e2 : b = true := by cases b <;> first | rfl | cases e
            rw [e2] at q'
            exact ⟨d, rfl, rep_notBl rx hn, q'⟩⟩
        · exact ⟨_, op_notN, fun B H th sg v u Q s rx ry q' => by cases ry; exact ⟨rfl, by rw [isNon_V rx, ← e, Bool.not_not]; exact q'⟩⟩
        · exact ⟨_, op_notBl, fun B H th sg v u Q s rx ry q' => by cases rx; cases ry; exact ⟨c, d, rfl, rfl, by rw [← Bool.beq_eq_decide_eq, ← e, Bool.not_not]; exact q'⟩⟩
  | mem =>
    cases p <;> first | exact Bool.noConfusion (show false = true from hp) | skip
    rcases memD_inv (show memD rho mu hx hy = some b from h) with ⟨i, ds, ns, rfl, e1, rfl, rfl⟩ | ⟨k, t, kvs, rfl, e1, e2, rfl⟩
    · refine ⟨_, op_in_seq, fun B H th sg v u Q s rx ry q' => ?_⟩
      cases rx
      obtain ⟨a, vs, rfl, h2, h3⟩ := seqA_sound s ry e1
      rw [h3.ints] at h2
      exact ⟨a, _, rfl, h2, rfl, flat_ints, by rw [inV_ints]; exact q'⟩
    · refine ⟨_, op_din (hu_of hc.room), fun B H th sg v u Q s rx ry q' => ?_⟩
      obtain ⟨a, o, rfl, g, z | ⟨d, z, z1, z2, _⟩⟩ := dict_get s ry rx e1 e2
      · exact ⟨a, o, rfl, g, by rw [z.1] at q'; rw [z.2]; exact q'⟩
      · exact ⟨a, o, rfl, g, by rw [z1] at q'; rw [z2]; exact q'⟩
  | nmem =>
    cases p <;> first | exact Bool.noConfusion (show false = true from hp) | skip
    rcases memD_inv (map_not (show (memD rho mu hx hy).map (!·) = some b from h)) with ⟨i, ds, ns, rfl, e1, rfl, e⟩ | ⟨k, t, kvs, rfl, e1, e2, e⟩
    · refine ⟨_, op_notIn_seq, fun B H th sg v u Q s rx ry q' => ?_⟩
      cases rx
      obtain ⟨a, vs, rfl, h2, h3⟩ := seqA_sound s ry e1
      rw [h3.ints] at h2
      exact ⟨a, _, rfl, h2, rfl, flat_ints, by rw [inV_ints, ← e]; simpa using q'⟩
    · refine ⟨_, op_dnin (hu_of hc.room), fun B H th sg v u Q s rx ry q' => ?_⟩
      obtain ⟨a, o, rfl, g, z | ⟨d, z, z1, z2, _⟩⟩ := dict_get s ry rx e1 e2
      · exact ⟨a, o, rfl, g, by rw [z.1] at e; rw [z.2]; cases b <;> first | exact q' | exact Bool.noConfusion (show true = false from e)⟩
      · exact ⟨a, o, rfl, g, by rw [z1] at e; rw [z2]; cases b <;> first | exact q' | exact Bool.noConfusion (show false = true from e)⟩
end
end Lin

/-! Lin, part F: operators, slices, built-ins by values. -/
namespace Lin
open PySem PySem.Spec PyProof.Rows L2

section
variable {K : PySem.W.Frag} {B B' H H' : Hp} {th th' : List Addr} {mu mu' : Store} {rho : Env} {sg : L2.St} {h : Hd} {v : V}
theorem SRc.notin {p : Addr} (s : SRc K B H th mu) (h : H p = none) : p ∉ th := fun hm => by
  obtain ⟨n, hn⟩ := List.getElem?_of_mem hm
  have hl : n < mu.length := by
    rw [← s.len]
    exact (List.getElem?_eq_some_iff.mp hn).1
  obtain ⟨a, o, h1, _, h3, _⟩ := s.cell n _ (List.getElem?_eq_getElem hl)
  rw [hn] at h1
  cases h1
  rw [h] at h3
  cases h3
/-- what is wanted of a value; of a new list -/
def GoV (K : PySem.W.Frag) (B H : Hp) (th : List Addr) (mu : Store) (d : Dat) (Q : VK) : Prop := ∀ v B' H' th', SRc K B' H' th' mu → Fut B H th B' H' th' → Rep K B' th' d v → Q v H'
def GoF (K : PySem.W.Frag) (B H : Hp) (th : List Addr) (mu : Store) (ds : List Dat) (Q : VK) : Prop := ∀ p vs B' H' th', SRc K B' H' th' mu → Fut B H th B' H' th' → H p = none → B' p = none → p ∉ th' → H' p = some (.lst vs) → Reps K B' th' ds vs → Q (.ref p) H'
theorem GoV.tup {ds : List Dat} {vs : List V} {Q : VK} {p : Addr} (s : SRc K B H th mu) (g : GoV K B H th mu (.tup ds) Q) (r : Reps K B th ds vs) (n : H p = none) : Q (.ref p) (upd H p (.tup vs)) :=
  g _ (upd B p (.tup vs)) _ th (s.new n) (.new s.ex n) (.tup upd_same (r.mono (Ex.new (s.ex.nn n)) (List.prefix_refl _)))
theorem GoF.lst {ds : List Dat} {vs : List V} {Q : VK} {p : Addr} (s : SRc K B H th mu) (g : GoF K B H th mu ds Q) (r : Reps K B th ds vs) (n : H p = none) : Q (.ref p) (upd H p (.lst vs)) :=
  g p vs B _ th (s.skip n) (.skip n) n (s.ex.nn n) (s.notin n) upd_same r
theorem GoV.fresh {ds : List Dat} {Q : VK} (g : GoV K B H th mu (.lst ds) Q) : GoF K B H th mu ds Q := fun p vs B' H' th' sc f hn hb hp hl hr => by
  have e : Ex B' (upd B' p (.lst vs)) := Ex.new hb
  refine g _ (upd B' p (.lst vs)) H' th' (sc.keep hl hb hp) ⟨f.ex.trans e, f.pre, f.fr, f.nw, fun a ha => ?_, f.dom, f.tp⟩ (.lst (.inl (.inl upd_same)) (hr.mono e (List.prefix_refl _)))
  by_cases z : a = p
  · subst z; exact .inr (.inl hn)
  · rw [upd_ne z] at ha; exact f.bn a ha
theorem GoV.here {d : Dat} {v : V} {Q : VK} (s : SRc K B H th mu) (g : GoV K B H th mu d Q) (r : Rep K B th d v) : Q v H := g v B H th s (.refl _ _ _) r
theorem cut_eq {xs : List V} (lo hi : Option Int) : cutV xs lo hi = cut xs lo hi := rfl
theorem Reps.cut {ds : List Dat} {vs : List V} (r : Reps K B th ds vs) (lo hi : Option Int) : Reps K B th (cut ds lo hi) (cut vs lo hi) := by
  unfold Lin.cut
  rw [r.length]
  exact (r.drop _).take _
theorem cut_whole {α : Type} {xs : List α} {lo hi : Option Int} (h : clip xs.length 0 lo = 0 ∧ clip xs.length xs.length hi = xs.length) : cut xs lo hi = xs := by
  unfold cut
  rw [h.1, h.2]
  simp
end

section
variable {X : Cx} {N : List Str} {sc : Scope} {k : Nat} {G : Gam} {nm : Nms} {xa : Nat → Addr}
/-- an operator's rule, the values known -/
def OpV (X : Cx) (p : Operator) (mu : Store) (rho : Env) (hx hy : Hd) (d : Dat) : Prop :=
  ∃ r : R2, OpR X (binaryOp p) r ∧ ∀ (B H : Hp) (th : List Addr) (sg : L2.St) (v u : V) (Q : VK), SR X.K B H th mu rho sg → RepH X.K B th sg hx v → RepH X.K B th sg hy u → GoV X.K B H th mu d Q → r v u H Q
def OpF (X : Cx) (p : Operator) (mu : Store) (rho : Env) (hx hy : Hd) (ds : List Dat) : Prop :=
  ∃ r : R2, OpR X (binaryOp p) r ∧ ∀ (B H : Hp) (th : List Addr) (sg : L2.St) (v u : V) (Q : VK), SR X.K B H th mu rho sg → RepH X.K B th sg hx v → RepH X.K B th sg hy u → GoF X.K B H th mu ds Q → r v u H Q
theorem OpF.v {p : Operator} {mu : Store} {rho : Env} {hx hy : Hd} {ds : List Dat} (h : OpF X p mu rho hx hy ds) : OpV X p mu rho hx hy (.lst ds) := by
  obtain ⟨r, h1, h2⟩ := h
  exact ⟨r, h1, fun B H th sg v u Q s rx ry g => h2 B H th sg v u Q s rx ry g.fresh⟩
theorem abs64 {i : Int} (h : i.natAbs < 18446744073709551616) : -(2 ^ 64) < i ∧ i < 2 ^ 64 := by
  have e : (2 : Int) ^ 64 = 18446744073709551616 := by decide
  rw [e]
  omega
theorem log_9000 {j : Int} (h0 : 0 < j) (h : j.natAbs < 2 ^ 8000) : j.natAbs.log2 < 9000 := by
  have hne : j.natAbs ≠ 0 := by omega
  have := (Nat.log2_lt hne).mpr h
  omega
theorem op_ints {o : AOp} {p : Operator} (hp : mOp o p = true) {i j z : Int} (h : arith o i j = some z) {mu : Store} {rho : Env} : OpV X p mu rho (.dat (.int i)) (.dat (.int j)) (.int z) := by
  have fin : ∀ {C : Int → Int → Prop} {g : Int → Int → Int}, OpR X (binaryOp p) (rI C fun i j => .int (g i j)) → C i j → g i j = z → OpV X p mu rho (.dat (.int i)) (.dat (.int j)) (.int z) := fun {C g} r hc e =>
    ⟨_, r, fun B H th sg v u Q s rx ry q => by cases rx; cases ry; exact ⟨i, j, rfl, rfl, hc, by rw [← e] at q; exact q.here s.toSRc (.int _)⟩⟩
  have fin0 : ∀ {g : Int → Int → Int}, OpR X (binaryOp p) (rI0 fun i j => .int (g i j)) → g i j = z → OpV X p mu rho (.dat (.int i)) (.dat (.int j)) (.int z) := fun {g} r e =>
    ⟨_, r, fun B H th sg v u Q s rx ry q => by cases rx; cases ry; exact ⟨i, j, rfl, rfl, by rw [← e] at q; exact q.here s.toSRc (.int _)⟩⟩
  cases o with
  | add =>
    cases p <;> first | exact Bool.noConfusion (show false = true from hp) | skip
    exact fin0 op_add (Option.some.inj h)
  | sub =>
    cases p <;> first | exact Bool.noConfusion (show false = true from hp) | skip
    exact fin0 op_sub (Option.some.inj h)
  | mul =>
    cases p <;> first | exact Bool.noConfusion (show false = true from hp) | skip
    have h' : (if i.natAbs < 18446744073709551616 ∨ j.natAbs < 18446744073709551616 then some (i * j) else none) = some z := h
    split at h'
    · rename_i q
      exact fin op_mul (q.elim (fun a => .inl (abs64 a)) fun a => .inr (abs64 a)) (Option.some.inj h')
    · cases h'
  | fdiv =>
    cases p <;> first | exact Bool.noConfusion (show false = true from hp) | skip
    have h' : (if 0 < j ∧ j.natAbs < 2 ^ 8000 then some (i / j) else none) = some z := h
    split at h'
    · rename_i q
      exact fin op_fdivW ⟨q.1, log_9000 q.1 q.2⟩ (Option.some.inj h')
    · cases h'
  | mod =>
    cases p <;> first | exact Bool.noConfusion (show false = true from hp) | skip
    have h' : (if 0 < j then some (i % j) else none) = some z := h
    split at h'
    · rename_i q
      exact fin op_mod q (Option.some.inj h')
    · cases h'
  | pow =>
    cases p <;> first | exact Bool.noConfusion (show false = true from hp) | skip
    have h' : (if 0 ≤ j ∧ j ≤ 1000000 ∧ i.natAbs < 18446744073709551616 then some (i ^ j.toNat) else none) = some z := h
    split at h'
    · rename_i q
      refine fin op_pow ⟨q.1, q.2.1, ?_⟩ (Option.some.inj h')
      have e : (2 : Nat) ^ 64 = 18446744073709551616 := by decide
      rw [e]
      exact q.2.2
    · cases h'
theorem op_tups {mu : Store} {rho : Env} {xs ys : List Dat} (hl : xs.length + ys.length ≤ cap) : OpV X .Add mu rho (.dat (.tup xs)) (.dat (.tup ys)) (.tup (xs ++ ys)) := by
  refine ⟨_, op_catA, fun B H th sg v u Q s rx ry q => ?_⟩
  cases rx with
  | tup a1 a2 =>
    cases ry with
    | tup b1 b2 =>
      rename_i a vs b ws
      refine ⟨a, b, vs, ws, rfl, rfl, .inl (.inl (s.ex _ _ a1)), .inl (.inl (s.ex _ _ b1)), by rw [a2.length, b2.length]; exact le_line hl, fun e => ?_, fun _ e => ?_, fun _ _ p n => q.tup s.toSRc (a2.append b2) n⟩
      · subst e
        cases a2
        exact q.here s.toSRc (.tup b1 b2)
      · subst e
        cases b2
        rw [List.append_nil] at q
        exact q.here s.toSRc (.tup a1 a2)
theorem op_lists {mu : Store} {rho : Env} {hx hy : Hd} {xs ys : List Dat} (h1 : seqL rho mu hx = some xs) (h2 : seqL rho mu hy = some ys) (hl : xs.length + ys.length ≤ cap) : OpF X .Add mu rho hx hy (xs ++ ys) := by
  refine ⟨_, op_catL, fun B H th sg v u Q s rx ry q => ?_⟩
  obtain ⟨a, vs, rfl, a1, a2⟩ := seqL_sound s rx h1
  obtain ⟨b, ws, rfl, b1, b2⟩ := seqL_sound s ry h2
  exact ⟨a, b, vs, ws, rfl, rfl, a1, b1, by rw [a2.length, b2.length]; exact le_line hl, fun p n => q.lst s.toSRc (a2.append b2) n⟩
theorem size_flat (its : List Value) (m : Nat) : (List.foldl (fun x1 x2 => x1 ++ x2) #[] (List.replicate m its.toArray)) = (List.replicate m its).flatten.toArray := by
  have q := foldl_rep its m []
  rw [List.nil_append] at q
  exact q
/-- t * k, 2 ≤ k -/
def rRepX (K : PySem.W.Frag) : R2 := fun x y H Q => ∃ l k xs, x = .ref l ∧ y = .int k ∧ SqT K H l xs ∧ xs ≠ [] ∧ 2 ≤ k ∧ k ≤ 3000 ∧ xs.length ≤ 1000 ∧ ∀ p, H p = none → Q (.ref p) (upd H p (.tup (List.replicate k.toNat xs).flatten))
theorem op_repX : OpR X (binaryOp .Mult) (rRepX X.K) := by
  intro pins s sg H x y v u Q I rx ry h
  obtain ⟨l, k, xs, rfl, rfl, hT, hne, h1, h2, hz, q⟩ := h
  cases rx
  obtain ⟨t, rfl⟩ := ry
  obtain ⟨its, r, ⟨⟨cls, dd, data, sl⟩, ho, hc, n, hd⟩, hs⟩ := I.tuple hT
  simp only at hc hd
  subst hc hd
  have hle : its.length = xs.length := r.length.symm
  have hi : its.toArray.isEmpty = false := by
    cases its with
    | nil => exact absurd (List.eq_nil_of_length_eq_zero hle.symm) hne
    | cons a b => rfl
  have sz : its.toArray.size = xs.length := by rw [List.size_toArray, hle]
  have hm : ((its.toArray.size : Nat) : Int) * k ≤ 3000000 := by
    rw [sz]
    have a1 : ((xs.length : Nat) : Int) * k ≤ 1000 * k := Int.mul_le_mul_of_nonneg_right (by omega) (by omega)
    omega
  have fl : (List.replicate k.toNat its).flatten.length ≤ sizeLine := by
    rw [PyProof.Rows.lm_len_rep_flat, hle, sizeLine_eq]
    have a1 : k.toNat * xs.length ≤ 3000 * 1000 := Nat.mul_le_mul (by omega) hz
    omega
  have c0 : (decide (k < -(2 ^ 63)) || decide (k ≥ 2 ^ 63)) = false := by
    rw [decide_eq_false (by omega), decide_eq_false (by omega)] <;> rfl
  have c1 : (its.toArray.isEmpty || k == 1) = false := by
    rw [hi, Bool.false_or]
    exact beq_eq_false_iff_ne.mpr (by omega)
  have c2 : (decide (k ≤ 0) || its.toArray.isEmpty) = false := by
    rw [hi, Bool.or_false]
    exact decide_eq_false (by omega)
  have c4 : Builtin.Tuple.tupleTooMany (((its.toArray.size : Nat) : Int) * k) = false := by
    unfold Builtin.Tuple.tupleTooMany
    have ez := sizeLine_eq
    exact decide_eq_false (by omega)
  have sf := size_flat its k.toNat
  refine wpAny_binaryOp_repeat_ref (T := "tuple") (U := "int") (by decide) ⟨_, ho, rfl⟩ (fun s' => typeIs_int s' k t) noFill_tuple_mul PySem.F.fills_int_mul PySem.F.slot_int_rmul repeat_tuple PySem.F.slot_int_index.lookup
    (call_meets PySem.F.slot_int_rmul (typeIs_int s k t) PySem.F.entry_int_rmul (PySem.F.args_int_rmul_2 _ _) (int_rmul_tuple k t l its.toArray n dd sl)
      ⟨ho, rfl, ⟨_, ho, rfl⟩, call_meets PySem.F.slot_tuple_mul ⟨_, ho, rfl⟩ PySem.F.entry_tuple_mul (PySem.F.args_tuple_mul_2 _ _) (tuple_mulW l its.toArray n dd sl k t c0 c1 c2 (by omega) c4 (by rw [sf, List.size_toArray]; exact fl)) ⟨ho, ?_⟩⟩)
  rw [sf]
  exact ⟨.ref _, _, I.laid (t' := s.toks) (o := .tup (List.replicate k.toNat xs).flatten) (fun b ob e => Heap.get?_push_of_some _ e) (Nat.le_refl _) ⟨by rw [PyProof.Rows.lm_len_rep_flat, ← hle, ← PyProof.Rows.lm_len_rep_flat]; exact fl, _, r.rep k.toNat, IsTup.new _ _⟩, rfl, q _ (I.hok.fresh (Nat.le_refl _))⟩
theorem op_rule {o : AOp} {p : Operator} (hp : mOp o p = true) {mu : Store} {rho : Env} {hx hy : Hd} {d : Dat} (h : opD rho mu o hx hy = some d) : OpV X p mu rho hx hy d ∧ ∀ ds, d = .lst ds → OpF X p mu rho hx hy ds := by
  unfold opD at h
  split at h
  · rename_i i j
    cases q : arith o i j with
    | none => rw [q] at h; cases h
    | some z =>
      rw [q] at h
      cases h
      exact ⟨op_ints hp q, fun ds e => nomatch e⟩
  · split at h
    · cases p <;> first | exact Bool.noConfusion (show false = true from hp) | skip
      split at h
      · rename_i hl
        cases h
        exact ⟨op_tups hl, fun ds e => nomatch e⟩
      · cases h
    · cases h
  · rename_i xs k
    split at h
    · cases p <;> first | exact Bool.noConfusion (show false = true from hp) | skip
      split at h
      · rename_i hl
        cases h
        by_cases k2 : 2 ≤ k
        · refine ⟨⟨_, op_repX, fun B H th sg v u Q s rx ry q => ?_⟩, fun ds e => nomatch e⟩
          cases rx with
          | tup a1 a2 =>
            cases ry
            rename_i a vs
            refine ⟨a, k, vs, rfl, rfl, .inl (.inl (s.ex _ _ a1)), fun e => ?_, k2, hl.2.2.2, by rw [a2.length]; exact hl.2.2.1, fun p n => q.tup s.toSRc (a2.rep _) n⟩
            subst e
            cases a2
            exact hl.1 rfl
        · refine ⟨⟨_, op_rep01, fun B H th sg v u Q s rx ry q => ?_⟩, fun ds e => nomatch e⟩
          cases rx with
          | tup a1 a2 =>
            cases ry
            rename_i a vs
            refine ⟨a, k, vs, rfl, rfl, .inl (.inl (s.ex _ _ a1)), fun e => ?_, ?_⟩
            · subst e
              cases a2
              exact hl.1 rfl
            · have hk : k = 1 ∨ k = 0 := by omega
              rcases hk with rfl | rfl
              · refine .inl ⟨rfl, ?_⟩
                have e : (List.replicate (1 : Int).toNat xs).flatten = xs := by simp
                rw [e] at q
                exact q.here s.toSRc (.tup a1 a2)
              · exact .inr ⟨rfl, fun p n => q.tup s.toSRc .nil n⟩
      · cases h
    · cases h
  · split at h
    · cases p <;> first | exact Bool.noConfusion (show false = true from hp) | skip
      split at h
      · rename_i xs ys h1 h2
        split at h
        · rename_i hl
          cases h
          have g := op_lists (X := X) h1 h2 hl
          exact ⟨g.v, fun ds e => by cases e; exact g⟩
        · cases h
      · cases h
    · cases h

/-! ### slices -/
def SlV (X : Cx) (mu : Store) (rho : Env) (hx : Hd) (l h : Option Int) (d : Dat) : Prop :=
  ∃ r : V → Option Int → Option Int → Hp → VK → Prop, SlR X r ∧ ∀ (B H : Hp) (th : List Addr) (sg : L2.St) (v : V) (Q : VK), SR X.K B H th mu rho sg → RepH X.K B th sg hx v → GoV X.K B H th mu d Q → r v l h H Q
def SlF (X : Cx) (mu : Store) (rho : Env) (hx : Hd) (l h : Option Int) (ds : List Dat) : Prop :=
  ∃ r : V → Option Int → Option Int → Hp → VK → Prop, SlR X r ∧ ∀ (B H : Hp) (th : List Addr) (sg : L2.St) (v : V) (Q : VK), SR X.K B H th mu rho sg → RepH X.K B th sg hx v → GoF X.K B H th mu ds Q → r v l h H Q
theorem slc_rule {mu : Store} {rho : Env} {hx : Hd} {l h : Option Int} {d : Dat} (e : slcD rho mu hx l h = some d) : SlV X mu rho hx l h d ∧ ∀ ds, d = .lst ds → SlF X mu rho hx l h ds := by
  unfold slcD at e
  split at e
  · rename_i ds
    cases e
    refine ⟨⟨_, sl_tupA, fun B H th sg v Q s rx q => ?_⟩, fun ds e => nomatch e⟩
    cases rx with
    | tup a1 a2 =>
      rename_i a vs
      refine ⟨a, vs, rfl, .inl (.inl (s.ex _ _ a1)), fun w => ?_, fun _ p n => q.tup s.toSRc (a2.cut l h) n⟩
      have w' : clip vs.length 0 l = 0 ∧ clip vs.length vs.length h = vs.length := w
      rw [a2.length] at w'
      rw [cut_whole w'] at q
      exact q.here s.toSRc (.tup a1 a2)
  · split at e
    · rename_i ds q1
      cases e
      have g : SlF X mu rho hx l h (cut ds l h) := ⟨_, sl_list, fun B H th sg v Q s rx q => by
        obtain ⟨a, vs, rfl, a1, a2⟩ := seqL_sound s rx q1
        exact ⟨a, vs, rfl, a1, fun p n => q.lst s.toSRc (a2.cut l h) n⟩⟩
      refine ⟨?_, fun ds' e => by cases e; exact g⟩
      obtain ⟨r, h1, h2⟩ := g
      exact ⟨r, h1, fun B H th sg v Q s rx q => h2 B H th sg v Q s rx q.fresh⟩
    · cases e
end
end Lin

set_option maxHeartbeats 4000000
/-! Lin, part Z: list(zip(t, u)) of two tuples. -/
namespace Lin
open PySem PySem.Spec PyProof.Rows L2
open RZ (nextOf_tuple_item nextOf_tuple_end pyNext_zipT_item pyNext_zipT_end call_zipT)

theorem zip_no_len : typeLookup (.type "zip") "__len__" = pure none := by rw [typeLookup_type, builtinLookup_eq_fast]; kernel_rfl
theorem zip_no_hint : typeLookup (.type "zip") "__length_hint__" = pure none := by rw [typeLookup_type, builtinLookup_eq_fast]; kernel_rfl
section
variable {prog : Program} {w : World} {A : Around} {E : Value → Shared → Prop} {s : Shared}
/-- another pair while an earlier one is kept -/
theorem zipK_body {z TI TO T i1 i2 l1 l2 : Addr} {f : Bool} {oT : Obj} {k1 k2 : Nat} {xs ys : Array Value} (D : ZipApart z TI TO i1 i2 l1 l2)
    (hz : IsZipHeld s.heap z TI TO T f) (hT : s.heap.get? T = some oT) (hTI : IsPair s.heap TI (.ref i1) (.ref i2))
    (h1 : s.heap.IsTupleIter i1 l1 k1) (h2 : s.heap.IsTupleIter i2 l2 k2) (hl1 : s.heap.IsTuple l1 xs) (hl2 : s.heap.IsTuple l2 ys) {x y : Value} {Q : Value → Shared → Prop} (hx : xs[k1]? = some x) (hy : ys[k2]? = some y)
    (hQ : ∀ h', IsZipHeld h' z TI TO T true → h'.IsTupleIter i1 l1 (k1 + 1) → h'.IsTupleIter i2 l2 (k2 + 1) → IsPair h' s.heap.objs.size x y → h'.objs.size = s.heap.objs.size + 1 →
      (∀ c o, c ≠ z → c ≠ i1 → c ≠ i2 → s.heap.get? c = some o → h'.get? c = some o) → Q (.ref s.heap.objs.size) { s with heap := h' }) :
    wpAny (model prog w) A (Builtin.«zip.__next__» ⟨[.ref z], []⟩) (fun fin s' => ∃ v, fin = .done (.ret v) ∧ Q v s') E s := by
  show wpAny _ _ (field (.ref z) 2 >>= _) _ _ _
  refine wpAny_bind (wpAny_field hz rfl (x := .bool false) rfl ?_)
  show wpAny _ _ (field (.ref z) 3 >>= _) _ _ _
  refine wpAny_bind (wpAny_field hz rfl (x := .ref TI) rfl (wpAny_bind (wpAny_seqItems hTI rfl ?_)))
  show wpAny _ _ (Builtin.SmallTypes.ownedTupleIsFree (.ref z) >>= _) _ _ _
  refine wpAny_bind (wpAny_tupleHeld_zip hz hT fun a za sa => ?_)
  simp only [Bool.false_eq_true, if_false]
  refine wpAny_bind ?_
  rw [← Array.forIn_toList]
  simp only [List.forIn_cons, List.forIn_nil]
  refine wpAny_bind (wpAny_bind (wpAny_holding ?_))
  show wpAny _ _ (Builtin.SmallTypes.nextOf (.ref i1) >>= _) _ _ _
  refine wpAny_bind (nextOf_tuple_item (s := { s with heap := a }) (h1.extBut sa.extBut D.i1z) (hl1.extBut sa.extBut D.l1z) hx fun b ib sb => wpAny_pure (wpAny_pure ?_))
  refine wpAny_bind (wpAny_bind (wpAny_holding ?_))
  show wpAny _ _ (Builtin.SmallTypes.nextOf (.ref i2) >>= _) _ _ _
  refine wpAny_bind (nextOf_tuple_item (s := { s with heap := b }) ((h2.extBut sa.extBut D.i2z).extBut sb.extBut D.i12.symm) ((hl2.extBut sa.extBut D.l2z).extBut sb.extBut D.l2i1) hy fun c ic sc => wpAny_pure (wpAny_pure (wpAny_pure ?_)))
  show wpAny _ _ (newTuple [x, y] >>= _) _ _ _
  refine wpAny_bind (wpAny_newTuple (wpAny_pure ⟨_, rfl, ?_⟩))
  have n : c.objs.size = s.heap.objs.size := by rw [sc.1, sb.1, sa.1]
  have pr : IsPair (c.push { cls := .type "tuple", data := .seq #[x, y] }) c.objs.size x y := Heap.get?_push_size _ rfl
  have n1 : (c.push { cls := .type "tuple", data := .seq #[x, y] }).objs.size = c.objs.size + 1 := Heap.size_push ..
  show Q (.ref c.objs.size) _
  rw [n] at pr n1 ⊢
  exact hQ _ (Heap.get?_push_of_some _ (sc.extBut _ _ D.i2z.symm (sb.extBut _ _ D.i1z.symm za))) ((ib.extBut sc.extBut D.i12).at fun o e => Heap.get?_push_of_some _ e) (ic.at fun o e => Heap.get?_push_of_some _ e) pr n1
    fun d o d1 d2 d3 e => Heap.get?_push_of_some _ (sc.extBut _ _ d3 (sb.extBut _ _ d2 (sa.extBut _ _ d1 e)))
theorem zipK_item {z TI TO T i1 i2 l1 l2 : Addr} {f : Bool} {oT : Obj} {k1 k2 : Nat} {xs ys : Array Value} (D : ZipApart z TI TO i1 i2 l1 l2)
    (hz : IsZipHeld s.heap z TI TO T f) (hT : s.heap.get? T = some oT) (hTI : IsPair s.heap TI (.ref i1) (.ref i2))
    (h1 : s.heap.IsTupleIter i1 l1 k1) (h2 : s.heap.IsTupleIter i2 l2 k2) (hl1 : s.heap.IsTuple l1 xs) (hl2 : s.heap.IsTuple l2 ys) {x y : Value} {Q : Option Value → Shared → Prop} (hx : xs[k1]? = some x) (hy : ys[k2]? = some y)
    (hQ : ∀ h', IsZipHeld h' z TI TO T true → h'.IsTupleIter i1 l1 (k1 + 1) → h'.IsTupleIter i2 l2 (k2 + 1) → IsPair h' s.heap.objs.size x y → h'.objs.size = s.heap.objs.size + 1 →
      (∀ c o, c ≠ z → c ≠ i1 → c ≠ i2 → s.heap.get? c = some o → h'.get? c = some o) → Q (some (.ref s.heap.objs.size)) { s with heap := h' }) : wpAny (model prog w) A (pyNext (.ref z)) Q E s := by
  have ty : s.TypeIs (.ref z) "zip" := ⟨_, hz, rfl⟩
  unfold pyNext
  exact wpAny_bind (wpAny_attempt (wpAny_callSpecial?_slot (name := Str.ofString "__next__") ty F.slot_zip_next
    (wpAny_call_entry F.slot_zip_next ty F.entry_zip_next (zipK_body D hz hT hTI h1 h2 hl1 hl2 hx hy fun h' a1 a2 a3 a4 a5 a6 => wpAny_pure (hQ h' a1 a2 a3 a4 a5 a6)) (F.args_zip_next_1 _))))
/-- no pair is left -/
theorem zipK_stop {z TI TO T i1 i2 l1 l2 : Addr} {f : Bool} {oT : Obj} {k1 k2 : Nat} {xs ys : Array Value} (D : ZipApart z TI TO i1 i2 l1 l2)
    (hz : IsZipHeld s.heap z TI TO T f) (hT : s.heap.get? T = some oT) (hTI : IsPair s.heap TI (.ref i1) (.ref i2))
    (h1 : s.heap.IsTupleIter i1 l1 k1) (h2 : s.heap.IsTupleIter i2 l2 k2) (hl1 : s.heap.IsTuple l1 xs) (hl2 : s.heap.IsTuple l2 ys) {Q : PySem.Fin → Shared → Prop} (hh : A.handled = none) (hend : xs[k1]? = none ∨ ys[k2]? = none)
    (hE : ∀ h' e, (∀ c o, c ≠ z → c ≠ i1 → c ≠ i2 → s.heap.get? c = some o → h'.get? c = some o) → (∃ o, h'.get? e = some o ∧ o.cls = .type "StopIteration") → E (.ref e) { s with heap := h' }) :
    wpAny (model prog w) A (Builtin.«zip.__next__» ⟨[.ref z], []⟩) Q E s := by
  show wpAny _ _ (field (.ref z) 2 >>= _) _ _ _
  refine wpAny_bind (wpAny_field hz rfl (x := .bool false) rfl ?_)
  show wpAny _ _ (field (.ref z) 3 >>= _) _ _ _
  refine wpAny_bind (wpAny_field hz rfl (x := .ref TI) rfl (wpAny_bind (wpAny_seqItems hTI rfl ?_)))
  show wpAny _ _ (Builtin.SmallTypes.ownedTupleIsFree (.ref z) >>= _) _ _ _
  refine wpAny_bind (wpAny_tupleHeld_zip hz hT fun a za sa => ?_)
  simp only [Bool.false_eq_true, if_false]
  refine wpAny_bind ?_
  rw [← Array.forIn_toList]
  simp only [List.forIn_cons, List.forIn_nil]
  refine wpAny_bind (wpAny_bind (wpAny_holding ?_))
  show wpAny _ _ (Builtin.SmallTypes.nextOf (.ref i1) >>= _) _ _ _
  cases hx : xs[k1]? with
  | none => exact wpAny_bind (nextOf_tuple_end (s := { s with heap := a }) hh (h1.extBut sa.extBut D.i1z) (hl1.extBut sa.extBut D.l1z) hx fun b e sb he => hE b e (fun c o c1 c2 _ q => sb _ _ c2 (sa.extBut _ _ c1 q)) he)
  | some x =>
    refine wpAny_bind (nextOf_tuple_item (s := { s with heap := a }) (h1.extBut sa.extBut D.i1z) (hl1.extBut sa.extBut D.l1z) hx fun b ib sb => wpAny_pure (wpAny_pure ?_))
    refine wpAny_bind (wpAny_bind (wpAny_holding ?_))
    show wpAny _ _ (Builtin.SmallTypes.nextOf (.ref i2) >>= _) _ _ _
    refine wpAny_bind (nextOf_tuple_end (s := { s with heap := b }) hh ((h2.extBut sa.extBut D.i2z).extBut sb.extBut D.i12.symm) ((hl2.extBut sa.extBut D.l2z).extBut sb.extBut D.l2i1) (hend.resolve_left (by rw [hx]; exact fun q => nomatch q)) fun c e sc he => ?_)
    exact hE c e (fun d o d1 d2 d3 q => sc _ _ d3 (sb.extBut _ _ d2 (sa.extBut _ _ d1 q))) he
theorem zipK_end {z TI TO T i1 i2 l1 l2 : Addr} {f : Bool} {oT : Obj} {k1 k2 : Nat} {xs ys : Array Value} (D : ZipApart z TI TO i1 i2 l1 l2)
    (hz : IsZipHeld s.heap z TI TO T f) (hT : s.heap.get? T = some oT) (hTI : IsPair s.heap TI (.ref i1) (.ref i2))
    (h1 : s.heap.IsTupleIter i1 l1 k1) (h2 : s.heap.IsTupleIter i2 l2 k2) (hl1 : s.heap.IsTuple l1 xs) (hl2 : s.heap.IsTuple l2 ys) {Q : Option Value → Shared → Prop} (hh : A.handled = none) (hend : xs[k1]? = none ∨ ys[k2]? = none)
    (hQ : ∀ h', (∀ c o, c ≠ z → c ≠ i1 → c ≠ i2 → s.heap.get? c = some o → h'.get? c = some o) → Q none { s with heap := h' }) : wpAny (model prog w) A (pyNext (.ref z)) Q E s := by
  have ty : s.TypeIs (.ref z) "zip" := ⟨_, hz, rfl⟩
  unfold pyNext
  refine wpAny_bind (wpAny_attempt (wpAny_callSpecial?_slot (name := Str.ofString "__next__") ty F.slot_zip_next
    (wpAny_call_entry F.slot_zip_next ty F.entry_zip_next (zipK_stop D hz hT hTI h1 h2 hl1 hl2 hh hend fun h' e hk he => ?_) (F.args_zip_next_1 _))))
  obtain ⟨o, ho, hc⟩ := he
  exact wpAny_bind (wpAny_isInstance (T := "StopIteration") (b := true) ⟨o, ho, hc⟩ isSubtype_stop (wpAny_pure (hQ _ hk)))
end

/-! ### the pairs in a list -/
/-- the pairs of xs and ys laid at Ts, one after another -/
inductive ZipH (H0 : Hp) (xs ys : List V) : List Addr → Hp → Prop
  | nil : ZipH H0 xs ys [] H0
  | snoc {Ts : List Addr} {H : Hp} {T : Addr} {x y : V} : ZipH H0 xs ys Ts H → xs[Ts.length]? = some x → ys[Ts.length]? = some y → H T = none → ZipH H0 xs ys (Ts ++ [T]) (upd H T (.tup [x, y]))
theorem ZipH.ex {H0 : Hp} {xs ys : List V} {Ts : List Addr} {H : Hp} (h : ZipH H0 xs ys Ts H) : Ex H0 H := by
  induction h with
  | nil => exact .refl _
  | snoc _ _ _ n ih => exact ih.trans (.new n)
theorem ZipH.at {H0 : Hp} {xs ys : List V} {Ts : List Addr} {H : Hp} (h : ZipH H0 xs ys Ts H) : ∀ T ∈ Ts, ∃ vs, H T = some (.tup vs) := by
  induction h with
  | nil => intro T hT; cases hT
  | snoc h _ _ n ih =>
    intro T hT
    rcases List.mem_append.mp hT with q | q
    · obtain ⟨vs, e⟩ := ih T q
      exact ⟨vs, Ex.new n T _ e⟩
    · rw [List.mem_singleton] at q
      rw [q, upd_same]
      exact ⟨_, rfl⟩
/-- how the zip stands at its i-th turn; own: the pairs that it may think of -/
def ZSt (z TI TO i1 i2 a b : Addr) (own : Addr → Prop) (i : Nat) (h : Heap) : Prop :=
  IsPair h TI (.ref i1) (.ref i2) ∧ (∃ x y, IsPair h TO x y) ∧ h.IsTupleIter i1 a i ∧ h.IsTupleIter i2 b i ∧ (IsZip h z TI TO .none ∨ ∃ T f, own T ∧ IsZipHeld h z TI TO T f)
theorem ZSt.up {z TI TO i1 i2 a b : Addr} {own own' : Addr → Prop} {i : Nat} {h h' : Heap} (st : ZSt z TI TO i1 i2 a b own i h) (ho : ∀ T, own T → own' T) (k : ∀ c ∈ [z, TI, TO, i1, i2], ∀ o, h.get? c = some o → h'.get? c = some o) : ZSt z TI TO i1 i2 a b own' i h' := by
  obtain ⟨h1, ⟨x, y, h2⟩, h3, h4, h5⟩ := st
  refine ⟨k TI (by simp) _ h1, ⟨x, y, k TO (by simp) _ h2⟩, h3.at fun o q => k i1 (by simp) o q, h4.at fun o q => k i2 (by simp) o q, ?_⟩
  rcases h5 with q | ⟨T, f, ow, q⟩
  · exact .inl (k z (by simp) _ q)
  · exact .inr ⟨T, f, ho T ow, k z (by simp) _ q⟩
section
variable {prog : Program} {w : World} {A : Around} {E : Value → Shared → Prop} {s : Shared}
theorem zip_turn {z TI TO i1 i2 a b : Addr} {own : Addr → Prop} {i : Nat} {xs ys : Array Value} {x y : Value} {Q : Option Value → Shared → Prop} (D : ZipApart z TI TO i1 i2 a b) (st : ZSt z TI TO i1 i2 a b own i s.heap) (al : ∀ T, own T → ∃ o, s.heap.get? T = some o)
    (p : s.heap.IsTuple a xs) (p2 : s.heap.IsTuple b ys) (hx : xs[i]? = some x) (hy : ys[i]? = some y)
    (hQ : ∀ h', ZSt z TI TO i1 i2 a b (fun T => own T ∨ T = s.heap.objs.size) (i + 1) h' → IsPair h' s.heap.objs.size x y → (∀ c o, c ∉ [z, TI, TO, i1, i2] → s.heap.get? c = some o → h'.get? c = some o) → Q (some (.ref s.heap.objs.size)) { s with heap := h' }) :
    wpAny (model prog w) A (pyNext (.ref z)) Q E s := by
  obtain ⟨h1, ⟨x0, y0, h2⟩, h3, h4, h5⟩ := st
  rcases h5 with q | ⟨T, f, ow, q⟩
  · exact pyNext_zipT_item D q h1 h2 h3 h4 p p2 hx hy fun h' g1 g2 g3 g4 g5 g6 k => hQ h' ⟨k _ _ D.TIz D.TITO D.TIi1 D.TIi2 h1, ⟨_, _, g2⟩, g3, g4, .inr ⟨_, _, .inr rfl, g1⟩⟩ g5
      fun c o hc e => k c o (fun z => hc (by simp [z])) (fun z => hc (by simp [z])) (fun z => hc (by simp [z])) (fun z => hc (by simp [z])) e
  · obtain ⟨oT, hT⟩ := al T ow
    exact zipK_item D q hT h1 h3 h4 p p2 hx hy fun h' g1 g3 g4 g5 g6 k => hQ h' ⟨k _ _ D.TIz D.TIi1 D.TIi2 h1, ⟨_, _, k _ _ D.TOz D.TOi1 D.TOi2 h2⟩, g3, g4, .inr ⟨_, _, .inl ow, g1⟩⟩ g5
      fun c o hc e => k c o (fun z => hc (by simp [z])) (fun z => hc (by simp [z])) (fun z => hc (by simp [z])) e
theorem zip_over {z TI TO i1 i2 a b : Addr} {own : Addr → Prop} {i : Nat} {xs ys : Array Value} {Q : Option Value → Shared → Prop} (hh : A.handled = none) (D : ZipApart z TI TO i1 i2 a b) (st : ZSt z TI TO i1 i2 a b own i s.heap) (al : ∀ T, own T → ∃ o, s.heap.get? T = some o)
    (p : s.heap.IsTuple a xs) (p2 : s.heap.IsTuple b ys) (hend : xs[i]? = none ∨ ys[i]? = none)
    (hQ : ∀ h', (∀ c o, c ∉ [z, TI, TO, i1, i2] → s.heap.get? c = some o → h'.get? c = some o) → Q none { s with heap := h' }) :
    wpAny (model prog w) A (pyNext (.ref z)) Q E s := by
  obtain ⟨h1, ⟨x0, y0, h2⟩, h3, h4, h5⟩ := st
  rcases h5 with q | ⟨T, f, ow, q⟩
  · exact pyNext_zipT_end hh D q h1 h2 h3 h4 p p2 hend fun h' k => hQ h' fun c o hc e => k c o (fun z => hc (by simp [z])) (fun z => hc (by simp [z])) (fun z => hc (by simp [z])) (fun z => hc (by simp [z])) e
  · obtain ⟨oT, hT⟩ := al T ow
    exact zipK_end D q hT h1 h3 h4 p p2 hh hend fun h' k => hQ h' fun c o hc e => k c o (fun z => hc (by simp [z])) (fun z => hc (by simp [z])) (fun z => hc (by simp [z])) e
end
section
variable {X : Cx} {pins : List (Addr × Obj)} {σ : L2.St} {A1 : Around}
/-- the turns of list(zip(t, u)) -/
theorem zip_fill {z TI TO i1 i2 a b q : Addr} {H1 : Hp} {xs ys : List V} {Rs : Result → Shared → Prop} (hh : A1.in1.handled = none) (D : ZipApart z TI TO i1 i2 a b) (hq : q ∉ [z, TI, TO, i1, i2]) (hlen : min xs.length ys.length ≤ sizeLine) (qx : SqT X.K H1 a xs) (qy : SqT X.K H1 b ys)
    (hdone : ∀ Ts H' s, ZipH H1 xs ys Ts H' → Ts.length = min xs.length ys.length → H' q = none → Inv X pins σ (upd H' q (.lst (Ts.map V.ref))) s → Rs (.ok (.ret .none)) s) :
    ∀ (k : Nat) (Ts : List Addr) (H' : Hp) (s : Shared), min xs.length ys.length - Ts.length = k → Ts.length ≤ min xs.length ys.length → ZipH H1 xs ys Ts H' → H' q = none → Inv X pins σ (upd H' q (.lst (Ts.map V.ref))) s →
      ZSt z TI TO i1 i2 a b (· ∈ Ts) Ts.length s.heap → (∀ c ∈ [z, TI, TO, i1, i2], FpOk X pins (upd H' q (.lst (Ts.map V.ref))) c) → codeAny (model X.prog X.w) A1 (.builtin "list.extend.loop" ⟨[.ref q, .ref z, .none], []⟩) Rs s := by
  intro k
  induction k with
  | zero =>
    intro Ts H' s hk hle hZ hn I st fp
    have exq : Ex H1 (upd H' q (.lst (Ts.map V.ref))) := hZ.ex.trans (.new hn)
    obtain ⟨its, rv, p, _⟩ := I.tuple (exq.st qx)
    obtain ⟨its2, rv2, p2, _⟩ := I.tuple (exq.st qy)
    have l1 := rv.length
    have l2 := rv2.length
    have al : ∀ T, T ∈ Ts → ∃ o, s.heap.get? T = some o := fun T hT => by
      obtain ⟨vs, e⟩ := hZ.at T hT
      obtain ⟨_, _, _, o, ho, _⟩ := I.hok T _ (Ex.new hn T _ e)
      exact ⟨o, ho⟩
    refine codeAny_builtin PySem.F.entry_extend_loop ?_
    rw [Around.under_plainId PySem.F.plain_extend_loop _]
    show wpAny _ A1.in1 (pyNext (.ref z) >>= _) _ _ s
    refine wpAny_bind (zip_over hh D st al p p2 ?_ fun h' k => wpAny_pure (hdone Ts H' _ hZ (by omega) hn (I.turnedL (t' := s.toks) (ch := [z, TI, TO, i1, i2]) (fun c o hc e => k c o hc e) fp)))
    by_cases y : xs.length ≤ ys.length
    · exact .inl (by simp; omega)
    · exact .inr (by simp; omega)
  | succ k ih =>
    intro Ts H' s hk hle hZ hn I st fp
    have exq : Ex H1 (upd H' q (.lst (Ts.map V.ref))) := hZ.ex.trans (.new hn)
    obtain ⟨its, rv, p, _⟩ := I.tuple (exq.st qx)
    obtain ⟨its2, rv2, p2, _⟩ := I.tuple (exq.st qy)
    have hix : Ts.length < xs.length := by omega
    have hiy : Ts.length < ys.length := by omega
    obtain ⟨u, hu, ru⟩ := rv.get (List.getElem?_eq_getElem hix)
    obtain ⟨u2, hu2, ru2⟩ := rv2.get (List.getElem?_eq_getElem hiy)
    have al : ∀ T, T ∈ Ts → ∃ o, s.heap.get? T = some o := fun T hT => by
      obtain ⟨vs, e⟩ := hZ.at T hT
      obtain ⟨_, _, _, o, ho, _⟩ := I.hok T _ (Ex.new hn T _ e)
      exact ⟨o, ho⟩
    have hql : q < s.heap.objs.size := by
      obtain ⟨_, its3, n3, _, e3⟩ := I.hok q _ upd_same
      exact Heap.lt_size e3
    have hfl : ∀ c ∈ [z, TI, TO, i1, i2], c < s.heap.objs.size := fun c hc => by
      obtain ⟨h1, ⟨x0, y0, h2⟩, ⟨o3, h3, _⟩, ⟨o4, h4, _⟩, h5⟩ := st
      have e' : c = z ∨ c = TI ∨ c = TO ∨ c = i1 ∨ c = i2 := by simpa using hc
      rcases e' with e | e | e | e | e
      · rw [e]
        rcases h5 with y | ⟨T, f, _, y⟩
        · exact Heap.lt_size y
        · exact Heap.lt_size y
      · rw [e]; exact Heap.lt_size h1
      · rw [e]; exact Heap.lt_size h2
      · rw [e]; exact Heap.lt_size h3
      · rw [e]; exact Heap.lt_size h4
    have hfr : upd H' q (.lst (Ts.map V.ref)) s.heap.objs.size = none := I.hok.fresh (Nat.le_refl _)
    have hqs : s.heap.objs.size ≠ q := Nat.ne_of_gt hql
    have hfr' : H' s.heap.objs.size = none := by rw [upd_ne hqs] at hfr; exact hfr
    refine codeAny_builtin PySem.F.entry_extend_loop ?_
    rw [Around.under_plainId PySem.F.plain_extend_loop _]
    show wpAny _ A1.in1 (pyNext (.ref z) >>= _) _ _ s
    refine wpAny_bind (zip_turn D st al p p2 (by simpa using hu) (by simpa using hu2) fun h' st' pr kp => ?_)
    have new : ObjOk X.prog X.w (upd (upd H' q (.lst (Ts.map V.ref))) s.heap.objs.size (.tup [xs[Ts.length], ys[Ts.length]])) h' s.heap.objs.size (.tup [xs[Ts.length], ys[Ts.length]]) :=
      ⟨by show 2 ≤ sizeLine; decide, [u, u2], .cons ru (.cons ru2 .nil), ⟨_, pr, rfl, _, rfl⟩⟩
    have I1 := I.turnedNew (t' := s.toks) (ch := [z, TI, TO, i1, i2]) (fun c o hc e => kp c o hc e) fp (Nat.le_refl _) new
    have hq1 : upd (upd H' q (.lst (Ts.map V.ref))) s.heap.objs.size (.tup [xs[Ts.length], ys[Ts.length]]) q = some (.lst (Ts.map V.ref)) := by rw [upd_ne hqs.symm, upd_same]
    obtain ⟨hz1, its4, n4, r4, hl4, e4⟩ := I1.lstM hq1
    show wpAny _ A1.in1 (updateSeq q (·.push (.ref s.heap.objs.size)) >>= _) _ _ _
    have hts : its4.length = Ts.length := by rw [← hl4, List.length_map]
    refine wpAny_bind (wpAny_updateSeq e4 rfl (wpAny_pure ⟨plainId_quiet PySem.F.plain_extend_loop _, ?_⟩) (by rw [List.size_toArray]; omega) (by show (its4.toArray.push _).size ≤ sizeLine + 1; rw [Array.size_push, List.size_toArray]; omega))
    have I2 := I1.lset (its' := its4 ++ [.ref s.heap.objs.size]) (ys := (Ts ++ [s.heap.objs.size]).map V.ref) (f := (·.push (.ref s.heap.objs.size))) (t' := s.toks) hq1 e4 (by simp) (by rw [List.map_append]; exact r4.append (.cons rfl .nil)) (by rw [List.length_map, List.length_append, List.length_singleton]; omega)
    have hH : upd (upd (upd H' q (.lst (Ts.map V.ref))) s.heap.objs.size (.tup [xs[Ts.length], ys[Ts.length]])) q (.lst ((Ts ++ [s.heap.objs.size]).map V.ref)) = upd (upd H' s.heap.objs.size (.tup [xs[Ts.length], ys[Ts.length]])) q (.lst ((Ts ++ [s.heap.objs.size]).map V.ref)) := by
      funext c
      by_cases y : c = q
      · rw [y, upd_same, upd_same]
      · rw [upd_ne y, upd_ne y]
        by_cases y2 : c = s.heap.objs.size
        · rw [y2, upd_same, upd_same]
        · rw [upd_ne y2, upd_ne y2, upd_ne y]
    rw [hH] at I2
    refine ih (Ts ++ [s.heap.objs.size]) _ _ (by rw [List.length_append, List.length_singleton]; omega) (by rw [List.length_append, List.length_singleton]; omega) (hZ.snoc (List.getElem?_eq_getElem hix) (List.getElem?_eq_getElem hiy) hfr') (by rw [upd_ne hqs.symm]; exact hn) I2 ?_ ?_
    · rw [List.length_append, List.length_singleton]
      refine st'.up (fun T hT => ?_) fun c hc o e => ?_
      · rcases hT with y | y
        · exact List.mem_append.mpr (.inl y)
        · exact List.mem_append.mpr (.inr (List.mem_singleton.mpr y))
      · exact (Heap.get?_update_other _ _ (fun y : q = c => hq (y ▸ hc))).trans e
    · intro c hc
      obtain ⟨f0, f1⟩ := fp c hc
      refine ⟨?_, f1⟩
      rw [upd_ne (fun y : c = q => hq (y ▸ hc))] at f0 ⊢
      rw [upd_ne (Nat.ne_of_lt (hfl c hc))]
      exact f0
end
end Lin

set_option maxHeartbeats 4000000
/-! Lin, part Z2: the call list(zip(t, u)). -/
namespace Lin
open PySem PySem.Spec PyProof.Rows L2
open RZ (call_zipT)
section
variable {X : Cx} {pins : List (Addr × Obj)} {σ : L2.St} {s : Shared}
theorem zip_list {z TI TO i1 i2 a b : Addr} {H1 : Hp} {xs ys : List V} {Q : VK} (hc : X.calm = true) (D : ZipApart z TI TO i1 i2 a b) (hlen : min xs.length ys.length ≤ sizeLine) (qx : SqT X.K H1 a xs) (qy : SqT X.K H1 b ys)
    (I : Inv X pins σ H1 s) (st : ZSt z TI TO i1 i2 a b (fun _ => False) 0 s.heap) (hz : IsZip s.heap z TI TO .none) (fp : ∀ c ∈ [z, TI, TO, i1, i2], FpOk X pins H1 c) (hfl : ∀ c ∈ [z, TI, TO, i1, i2], c < s.heap.objs.size)
    (hQ : ∀ Ts H' q, ZipH H1 xs ys Ts H' → Ts.length = min xs.length ys.length → H' q = none → Q (.ref q) (upd H' q (.lst (Ts.map V.ref)))) :
    wpAny (model X.prog X.w) X.A (call (.type "list") [.ref z]) (EP X pins σ Q) X.xe s := by
  have fr : H1 s.heap.objs.size = none := I.hok.fresh (Nat.le_refl _)
  have hqf : s.heap.objs.size ∉ [z, TI, TO, i1, i2] := fun h => Nat.lt_irrefl _ (hfl _ h)
  have hqz : s.heap.objs.size ≠ z := fun e => hqf (by rw [e]; simp)
  refine callType_codes (Q₁ := fun obj s₁ => obj = .ref s.heap.objs.size ∧ s₁ = { s with heap := s.heap.push { cls := .type "list", data := .seq #[] } }) PySem.F.called_list (PySem.F.typeCall_list_1 _) PySem.F.entry_list_init
    (code_list_new _ ⟨rfl, rfl⟩) fun obj s₁ h₁ => ?_
  obtain ⟨rfl, rfl⟩ := h₁
  have hS : (s.heap.push { cls := .type "list", data := .seq #[] }).get? s.heap.objs.size = some { cls := .type "list", data := .seq #[] } := Heap.get?_push_size _ rfl
  refine ⟨⟨_, hS, rfl⟩, PySem.F.args_list_init_2 _ _, ?_⟩
  have I1 : Inv X pins σ (upd H1 s.heap.objs.size (.lst [])) { s with heap := s.heap.push { cls := .type "list", data := .seq #[] } } := I.lnew (its := []) (t' := s.toks) .nil (Nat.zero_le _)
  have zp : IsZip (s.heap.push { cls := .type "list", data := .seq #[] }) z TI TO .none := Heap.get?_push_of_some _ hz
  have st1 : ZSt z TI TO i1 i2 a b (fun _ => False) 0 (s.heap.push { cls := .type "list", data := .seq #[] }) := st.up (fun _ h => h) fun c _ o e => Heap.get?_push_of_some _ e
  generalize hhp : s.heap.push { cls := .type "list", data := .seq #[] } = hp at hS I1 zp st1
  show wpAny _ _ (Builtin.List.listItems (.ref s.heap.objs.size) >>= fun old => Builtin.List.listUpdate (.ref s.heap.objs.size) (fun _ => #[]) >>= fun _ => letGo old.toList.reverse >>= fun _ => Builtin.List.listExtendWith (.ref s.heap.objs.size) (.ref z) .none) _ _ _
  refine wpAny_bind ?_
  unfold Builtin.List.listItems
  refine wpAny_bind (wpAny_seqItems hS rfl (wpAny_pure ?_))
  show wpAny _ _ (updateSeq s.heap.objs.size (fun _ => #[]) >>= fun _ => letGo (#[] : Array Value).toList.reverse >>= fun _ => Builtin.List.listExtendWith (.ref s.heap.objs.size) (.ref z) .none) _ _ _
  refine wpAny_bind (wpAny_updateSeq hS rfl ?_)
  have I2 := I1.lset (f := fun _ => #[]) (its := []) (its' := []) (ys := []) (t' := s.toks) upd_same hS rfl .nil (Nat.zero_le _)
  rw [upd_upd] at I2
  have zp2 : IsZip (hp.update s.heap.objs.size (Obj.mapSeq fun _ => #[])) z TI TO .none := (Heap.get?_update_other _ _ hqz).trans zp
  have st2 : ZSt z TI TO i1 i2 a b (fun _ => False) 0 (hp.update s.heap.objs.size (Obj.mapSeq fun _ => #[])) := st1.up (fun _ h => h) fun c hc o e => (Heap.get?_update_other _ _ (fun y : s.heap.objs.size = c => hqf (y ▸ hc))).trans e
  refine wpAny_bind (wpAny_letGo ?_)
  clear hS I1 zp st1
  generalize hp.update s.heap.objs.size (Obj.mapSeq fun _ => #[]) = h2 at I2 zp2 st2
  have hT : ({ s with heap := h2, toks := s.toks } : Shared).TypeIs (.ref z) "zip" := ⟨_, zp2, rfl⟩
  unfold Builtin.List.listExtendWith
  refine wpAny_bind (wpAny_typeOf hT ?_)
  have g1 : Builtin.List.listSameRef (.ref s.heap.objs.size) (.ref z) = false := by simp [Builtin.List.listSameRef, hqz]
  have g2 : (Value.type "zip" == Value.type "list") = false := by decide
  have g3 : (Value.type "zip" == Value.type "tuple") = false := by decide
  simp only [g1, g2, g3, Bool.or_false, Bool.false_eq_true, if_false]
  refine wpAny_bind (wpAny_pyIter_zip zp2 ?_)
  refine wpAny_bind (wpAny_holding ?_)
  unfold Builtin.List.listLengthHint
  refine wpAny_bind (wpAny_specialOf hT zip_no_len ?_)
  show wpAny _ _ (specialOf (Value.ref z) (Str.ofString "__length_hint__") >>= _) _ _ _
  refine wpAny_bind (wpAny_specialOf hT zip_no_hint (wpAny_pure ?_))
  show wpAny _ _ (rule "list.extend.makes-room" >>= fun _ => Builtin.List.listTouch (.ref s.heap.objs.size) >>= fun _ => again (.builtin "list.extend.loop" ⟨[.ref s.heap.objs.size, .ref z, .none], []⟩)) _ _ _
  refine wpAny_bind (wpAny_rule (wpAny_bind ?_))
  show wpAny _ _ (updateSeq s.heap.objs.size (·.push .none) >>= fun _ => updateSeq s.heap.objs.size (·.pop)) _ _ _
  obtain ⟨y3, its3, n3, r3, l3, e3⟩ := I2.lstM upd_same
  cases r3
  refine wpAny_bind (wpAny_updateSeq e3 rfl ?_)
  have I3 := I2.lset (f := (·.push Value.none)) (its' := [Value.none]) (ys := [.non]) (t' := s.toks) upd_same e3 (by simp) (.cons rfl .nil) (by rw [List.length_singleton, sizeLine_eq]; decide)
  obtain ⟨y4, its4, n4, r4, l4, e4⟩ := I3.lstM upd_same
  obtain ⟨u4, rfl, ru4⟩ := r4.one
  refine wpAny_updateSeq e4 rfl (wpAny_pure ⟨plainId_quiet PySem.F.plain_extend_loop _, ?_⟩) (by show 1 ≤ sizeLine; rw [sizeLine_eq]; decide) (by show 0 ≤ sizeLine + 1; exact Nat.zero_le _)
  have I4 := I3.lset (f := (·.pop)) (its := [u4]) (its' := []) (ys := []) (t' := s.toks) upd_same e4 (by rfl) .nil (Nat.zero_le _)
  rw [upd_upd, upd_upd] at I4
  refine zip_fill (A1 := X.A.in1) (Rs := wants (fun r s₂ => r = .none ∧ EP X pins σ Q (.ref s.heap.objs.size) s₂) X.xe) (I.ok.hd hc) D hqf hlen qx qy
    (fun Ts H' s' hZ hl hn I' => ⟨rfl, .ref s.heap.objs.size, _, I', rfl, hQ Ts H' _ hZ hl hn⟩) _ [] H1 _ rfl (Nat.zero_le _) .nil fr I4 ?_ ?_
  · refine st2.up (fun _ h => h.elim) fun c hc o e => ?_
    have y : s.heap.objs.size ≠ c := fun y => hqf (y ▸ hc)
    exact (Heap.get?_update_other _ _ y).trans ((Heap.get?_update_other _ _ y).trans e)
  · intro c hc
    obtain ⟨f0, f1⟩ := fp c hc
    exact ⟨by rw [upd_ne (fun y : c = s.heap.objs.size => hqf (y ▸ hc))]; exact f0, f1⟩
end

def tListZip (K : PySem.W.Frag) (ta : TA) : TE := fun σ H Q => ta σ H fun vs H1 => ∃ (a b : Addr) (xs ys : List V), vs = [.ref a, .ref b] ∧ SqT K H1 a xs ∧ SqT K H1 b ys ∧ min xs.length ys.length ≤ sizeLine ∧
  ∀ Ts H' q, ZipH H1 xs ys Ts H' → Ts.length = min xs.length ys.length → H' q = none → Q (.ref q) (upd H' q (.lst (Ts.map V.ref)))
theorem pe_listZip {X : Cx} {e e2 : Expr} {ta : TA} {p p2 q pos : Pos} (hc : X.calm = true) (hg : Gl X "list") (hm : X.mg "list" = none) (hg2 : Gl X "zip") (hm2 : X.mg "zip" = none) (ha : PA X [e, e2] ta)
    (hs : starEach [e, e2] X.env = (false, eval e X.env) :: starEach [e2] X.env := by rfl) (hpl : (backTo q (starEach [e2] X.env)).any (·.1) = false := by rfl) :
    PE X (.Call (.Name "list" p) [.Call (.Name "zip" p2) [e, e2] [] q] [] pos) (tListZip X.K ta) := by
  refine ⟨fun pins s σ H Q I h => ?_⟩
  refine Call_ (ld_blt I hg hm PyProof.Rows.boot_list ?_)
  refine PyProof.Rows.callWith_type1 (PyProof.Rows.args_cons ?_ rfl) rfl rfl
  refine Call_ (ld_blt I hg2 hm2 PyProof.Rows.boot_zip (PyProof.Rows.callWith_type1 (thn (ha.run q pins s σ H _ I h) fun us s1 ⟨vs, H1, I1, r1, q1⟩ => ?_) hs hpl))
  obtain ⟨a, b, xs, ys, rfl, qx, qy, hl, q1⟩ := q1
  cases r1 with
  | cons r rr =>
    cases rr with
    | cons r' rr =>
      cases rr
      cases r
      cases r'
      obtain ⟨its, rv, p1, _⟩ := I1.tuple qx
      obtain ⟨its2, rv2, p2, _⟩ := I1.tuple qy
      obtain ⟨o1, ho1, _⟩ := id p1
      obtain ⟨o2, ho2, _⟩ := id p2
      have fresh5 : ∀ c, c ∈ [s1.heap.objs.size + 4, s1.heap.objs.size + 2, s1.heap.objs.size + 3, s1.heap.objs.size, s1.heap.objs.size + 1] → s1.heap.objs.size ≤ c ∧ c < s1.heap.objs.size + 5 := fun c hcm => by
        have e' : c = s1.heap.objs.size + 4 ∨ c = s1.heap.objs.size + 2 ∨ c = s1.heap.objs.size + 3 ∨ c = s1.heap.objs.size ∨ c = s1.heap.objs.size + 1 := by simpa using hcm
        omega
      refine call_zipT (show s1.heap.IsTuple a its.toArray from p1) (show s1.heap.IsTuple b its2.toArray from p2) fun h' hz hTI hTO h1 h2 hsz hk => PyProof.Rows.args_nil ?_
      have I2 : Inv X pins σ H1 { s1 with heap := h' } := I1.kept (t' := s1.toks) hk
      exact zip_list hc (PySem.W.ktu_apart s1.heap.objs.size a b (Heap.lt_size ho1) (Heap.lt_size ho2)) hl qx qy I2 ⟨hTI, ⟨_, _, hTO⟩, h1, h2, .inl hz⟩ hz
        (fun c hcm => I1.fpOk (fresh5 c hcm).1 (I1.hok.fresh (fresh5 c hcm).1)) (fun c hcm => by show c < h'.objs.size; rw [hsz]; exact (fresh5 c hcm).2) q1
end Lin

set_option maxHeartbeats 4000000
/-! Lin, part Z3: set(xs), xs a list of numbers. -/
namespace Lin
open PySem PySem.Spec PyProof.Rows L2

/-- a set with nothing in it -/
abbrev set0 (w : World) : Obj := { cls := .type "set", dict := none, data := .set #[] 0 (.fresh 0 0 (!w.params.followText "set-order")) }
section
variable {P : Program} {w : World} {A : Around} {E : Value → Shared → Prop} {s : Shared}
/-- what set.__init__ does to the new set, for a list -/
theorem set_filled {l : Addr} {items : Array Value} (ns : List Int) {R : Result → Shared → Prop} (hh : A.handled = none) (hl : s.heap.IsList l items) (hit : IntsAre items.toList ns) (hb : ns.length + 1 < scanBound)
    (h : ∀ (h' : Heap) (tk c : Nat), SetR w h' s.heap.objs.size (fun j => decide (j ∈ ns)) c → (∀ b o, s.heap.get? b = some o → h'.get? b = some o) → R (.ok (.ret .none)) { s with heap := h', toks := tk }) :
    wpAny (model P w) A.in1 (Builtin.«set.__init__» ⟨[.ref s.heap.objs.size, .ref l], []⟩)
      (fun fin s' => match fin with | .done f => R (.ok f) s' | .again c' => c'.quiet = true ∧ codeAny (model P w) A c' R s') (fun e s' => R (.error e) s') { s with heap := s.heap.push (set0 w) } := by
  have sz : items.size = ns.length := by
    have q := IntsAre.length hit
    rwa [Array.length_toList] at q
  obtain ⟨ol, hol, hcl, nl, hdl⟩ := hl
  obtain ⟨ocls, odict, odata, oslots⟩ := ol
  simp only at hcl hdl
  subst hcl; subst hdl
  have hol' : (s.heap.push (set0 w)).get? l = some { cls := .type "list", dict := odict, data := .seq items nl, slots := oslots } := Heap.get?_push_of_some _ hol
  have hS : (s.heap.push (set0 w)).get? s.heap.objs.size = some (set0 w) := Heap.get?_push_size _ rfl
  have hl1 : (s.heap.push (set0 w)).IsList l items := ⟨_, hol', rfl, nl, rfl⟩
  have f1 := PySem.F.sub_list_set
  have f2 := PySem.F.sub_list_frozenset
  have f3 : (Value.type "list" == Value.type "dict") = false := by decide
  have ty : Shared.TypeIs { s with heap := s.heap.push (set0 w) } (.ref s.heap.objs.size) "set" := ⟨_, hS, rfl⟩
  have hlS : l < s.heap.objs.size := Heap.lt_size hol
  have hI : (s.heap.push (set0 w)).objs.size = s.heap.objs.size + 1 := Heap.size_push ..
  unfold Builtin.«set.__init__» noKeywords Builtin.Frozenset.updateFrom
  generalize hp : pyIter = it
  wp_walk
  subst hp
  refine wpAny_pyIter_list hl1 (wpAny_bind (wpAny_runValue ?_))
  have ne : l ≠ (s.heap.push (set0 w)).objs.size := by rw [hI]; exact Nat.ne_of_lt (Nat.lt_succ_of_lt hlS)
  have nf : s.heap.objs.size ∉ [(s.heap.push (set0 w)).objs.size, l] := by
    rw [hI]
    intro z
    rcases List.mem_cons.mp z with e | e
    · exact absurd e (Nat.ne_of_lt (Nat.lt_succ_self _))
    · exact absurd (List.mem_singleton.mp e) (Nat.ne_of_gt hlS)
  have hv : ∀ (i : Nat) (v : Value), items[i]? = some v → ∃ k t, ns[i]? = some k ∧ v = .int k t := fun i v e => by
    have hi : i < ns.length := by rw [← sz]; exact (Array.getElem?_eq_some_iff.mp e).1
    obtain ⟨t, q⟩ := IntsAre.int_at hit i v (by rw [Array.getElem?_toList]; exact e)
    exact ⟨ns[i], t, List.getElem?_eq_getElem hi, by rw [q, List.getD_eq_getElem?_getD, List.getElem?_eq_getElem hi] <;> rfl⟩
  refine set_update_ints ((Walks.list (by simp [hh]) _ l ne items).toS) s.heap.objs.size nf ns sz hb hv (items.size - 0) 0 _ (by omega) (Nat.zero_le _) ⟨⟨_, Heap.get?_push_size _ rfl, rfl, rfl⟩, hl1.push _⟩
    ⟨0, Nat.le_refl 0, setR_new_at (Heap.get?_push_of_some _ hS)⟩ fun s' c hm _ hs => ?_
  obtain ⟨h', g', d', tk', os'⟩ := s'
  cases (show g' = s.gens from hm.gens)
  cases (show d' = s.drawn from hm.drawn)
  cases (show os' = s.os from hm.os)
  show wpAny _ _ _ _ _ _
  refine wpAny_pure ?_
  show wpAny _ _ (ret Value.none) _ _ _
  refine wpAny_pure (h h' tk' c hs fun b o e => ?_)
  have hb0 : b < s.heap.objs.size := Heap.lt_size e
  refine hm.heap b o (fun z => ?_) (Heap.get?_push_of_some _ (Heap.get?_push_of_some _ e))
  rw [hI] at z
  rcases List.mem_cons.mp z with q | q
  · exact absurd q (Nat.ne_of_lt hb0)
  · exact absurd (List.mem_singleton.mp q) (Nat.ne_of_lt (Nat.lt_succ_of_lt hb0))
/-- set(xs) -/
theorem call_set_lst {l : Addr} {items : Array Value} (ns : List Int) {Q : Value → Shared → Prop} (hh : A.handled = none) (hl : s.heap.IsList l items) (hit : IntsAre items.toList ns) (hb : ns.length + 1 < scanBound)
    (h : ∀ (h' : Heap) (tk c : Nat), SetR w h' s.heap.objs.size (fun j => decide (j ∈ ns)) c → (∀ b o, s.heap.get? b = some o → h'.get? b = some o) → Q (.ref s.heap.objs.size) { s with heap := h', toks := tk }) :
    wpAny (model P w) A (call (.type "set") [.ref l]) Q E s := by
  obtain ⟨c, tl, g0⟩ := F.called_set.mro
  have g1 := F.called_set.made
  have g2 := F.called_set.sub
  have g3 := F.called_set.notType
  have g4 := F.called_set.canCreate
  have g5 := F.typeCall_set_1 (.ref l)
  refine wpAny_call (codeAny_of_tree ?_)
  show wpAny _ _ (callAny (.type "set") _) _ _ _
  refine wpAny_pure ⟨Code.quiet_builtin _ (by decide +kernel), codeAny_builtin F.entry_type_call ?_⟩
  rw [Around.under_plain (weight_type_call_type "set" [.ref l] []) rfl]
  repeat (any_goals (first | assumption | wp_step))
  refine codeAny_mono (code_set_led1 (.ref l) (E := E) (Q₁ := fun obj s₁ => obj = .ref s.heap.objs.size ∧ s₁ = { s with heap := s.heap.push (set0 w) }) ⟨rfl, rfl⟩) fun r s₁ hr => ?_
  cases r with
  | error e => exact hr
  | ok fl =>
    cases fl with
    | ret obj =>
      obtain ⟨rfl, rfl⟩ := hr
      have hS : (s.heap.push (set0 w)).get? s.heap.objs.size = some (set0 w) := Heap.get?_push_size _ rfl
      have ty : Shared.TypeIs { s with heap := s.heap.push (set0 w) } (.ref s.heap.objs.size) "set" := ⟨_, hS, rfl⟩
      have g6 := F.called_set.init.lookup
      have g7 := F.called_set.init.bind (.ref s.heap.objs.size)
      repeat (any_goals (first | assumption | wp_step))
      refine codeAny_mono (codeAny_call_builtin (R := wants (fun r s₂ => r = .none ∧ Q (.ref s.heap.objs.size) s₂) E) F.called_set.init.plain F.entry_set_init (check_set_init_1 ty ?_)) fun r₂ s₂ hr₂ => ?_
      · exact set_filled (A := A.in1) ns (by simp [hh]) hl hit hb fun h' tk c hs k => ⟨rfl, h h' tk c hs k⟩
      · cases r₂ with
        | error e => exact hr₂
        | ok fl₂ =>
          cases fl₂ with
          | ret r =>
            obtain ⟨rfl, q⟩ := hr₂
            repeat (any_goals (first | assumption | wp_step))
          | _ => exact hr₂.elim
    | _ => exact hr.elim
end
/-- set(xs), xs a list of numbers -/
def rSetLs (K : PySem.W.Frag) (w : World) : List V → Hp → VK → Prop := fun xs H Q => ∃ (p : Addr) (ns : List Int), xs = [.ref p] ∧ SqL K H p (ns.map V.int) ∧ ns.length ≤ 1000 ∧ ∀ q, H q = none → Q (.ref q) (upd H q (SetO w q (fun j => decide (j ∈ ns)) (setI ns).length))
theorem cr_setL {X : Cx} (hc : X.calm = true) : CallR X (.type "set") (rSetLs X.K X.w) := by
  intro pins s sg H xs us Q I r hyp
  obtain ⟨p0, ns, rfl, hq, hl, q⟩ := hyp
  rw [Vals.ref1 r]
  obtain ⟨its, rv, pt, hz⟩ := I.list hq
  have hi : IntsAre its.toArray.toList ns := ints_of_vals rv
  refine call_set_lst ns (I.ok.hd hc) pt.isList hi (by unfold scanBound; omega) fun h' tk c R1 k => ?_
  have hcc := setR_count R1
  subst hcc
  exact ⟨.ref _, upd H s.heap.objs.size (SetO X.w s.heap.objs.size (fun j => decide (j ∈ ns)) (setI ns).length), I.laid (t' := tk) k (Nat.le_refl _) (setO_new R1), rfl, q _ (I.hok.fresh (Nat.le_refl _))⟩
end Lin

set_option maxHeartbeats 4000000
/-! Lin, part Z5: sorted(d), of any size; keys ints, or tuples. -/
namespace Lin
open PySem PySem.Spec PyProof.Rows L2
section
variable {X : Cx}
/-- sorted(d) of a dict, all keys ints -/
def rSortDI : List V → Hp → VK → Prop := fun xs H Q => ∃ (a : Addr) (kvs : List (Key × V)) (ks : List Int), xs = [.ref a] ∧ Rd H a (.dK kvs) ∧ kvs.map (·.1) = ks.map Sum.inl ∧
    ∀ (ys : List Int) (p : Addr), ys.Perm ks → ys.Pairwise (· ≤ ·) → H p = none → Q (.ref p) (upd H p (.lst (ys.map V.int)))
theorem call_sortedDI2 (hcalm : X.calm = true) : CallR X (.builtin "sorted") rSortDI := by
  intro pins s σ H xs us Q I r q
  obtain ⟨a, kvs, ks, ex, hd, hks, q⟩ := q
  subst ex
  obtain ⟨u, eu, rx⟩ := vals1 r
  subst eu
  cases rx
  obtain ⟨z, lo, vs, rel, dd⟩ := dk_rd I.hok hd
  obtain ⟨ep, hat⟩ := dd.dictAt
  have hkeys : vs.map (·.1) = ks.map Sum.inl := rel.keys.symm.trans hks
  have hl : vs.length = ks.length := by
    have e := congrArg List.length hkeys
    rw [List.length_map, List.length_map] at e
    exact e
  have h16 : vs.length ≤ sizeLine := by rw [← rel.length]; exact z
  refine Calls.call_function_entry PyProof.Rows.kind_sorted PyProof.Rows.plain_sorted PyProof.Rows.entry_sorted (PyProof.Rows.args_sorted1 _) ?_
  unfold Builtin.«sorted»
  refine wpAny_bind (m := checkCount "sorted" 1 1 _) (wpAny_pure ?_)
  refine wpAny_bind (PySem.W.kdu_collect (A := X.A.in1) (PySem.W.kdl_dict (knd := mixKind X.prog X.w) (kvs := vs) (ep := ep) lo) (I.ok.hd hcalm) hat h16 fun h' tk acc hk hacc => ?_)
  have hal : acc.toList.length = ks.length := by rw [Array.length_toList, hacc.1, hl]
  have hS : IntsAre acc.toList ks := ints_each hal fun j v e => by
    obtain ⟨k, x, e1, e2⟩ := hacc.2 j v (by rw [← Array.getElem?_toList]; exact e)
    have e3 : (vs.map (·.1))[j]? = some k := by rw [List.getElem?_map, e1]; rfl
    rw [hkeys, List.getElem?_map] at e3
    cases e4 : ks[j]? with
    | none => rw [e4] at e3; cases e3
    | some y =>
      rw [e4] at e3
      have e5 : Sum.inl y = k := Option.some.inj e3
      subst e5
      rcases keyIs_shape (show keyIs (Sum.inl y) v = true from e2) with ⟨i, t, ek, ev⟩ | ⟨z, t, ek, ev⟩
      · cases ek
        exact ⟨y, t, rfl, ev⟩
      · cases ek
  have I1 : Inv X pins σ H { s with heap := h', toks := tk } := I.kept hk
  refine wpAny_bind (wpAny_newList ?_ (by rw [hal, ← hl]; exact h16))
  have hoL : (h'.push (seqObj "list" acc.toList.toArray 0)).get? h'.objs.size = some (seqObj "list" acc.toList.toArray 0) := Heap.get?_push_size _ rfl
  show wpAny _ _ _ _ _ { s with heap := h'.push (seqObj "list" acc.toList.toArray 0), toks := tk }
  refine wpAny_bind (wpAny_holding (wpAny_call_entry PyProof.Rows.slot_list_sort ⟨_, hoL, rfl⟩ PyProof.Rows.entry_list_sort
    (PyProof.Rows.list_sort_treeAny (s := { s with heap := h'.push (seqObj "list" acc.toList.toArray 0), toks := tk }) hoL hS (by rw [hal, ← hl]; exact h16) fun out ys g1 g2 g3 => ⟨_, rfl, ?_⟩) (PyProof.Rows.args_list_sort _)))
  obtain ⟨e', he'⟩ := PyProof.Rows.sortedHeap_at (vs := acc.toList) (out := out) hoL
  have hlen : (ys.map V.int).length ≤ sizeLine := by
    rw [List.length_map, g2.length_eq, ← hl]
    exact h16
  refine wpAny_pure ⟨_, rfl, .ref h'.objs.size, upd H h'.objs.size (.lst (ys.map V.int)), I1.laid (t' := tk) (fun b u e => ?_) (Nat.le_refl _)
    (show ObjOk X.prog X.w _ _ _ (.lst (ys.map V.int)) from ⟨hlen, out.toList, e', vals_of_ints g1, by rw [Array.toArray_toList]; exact he'⟩), rfl, q ys _ g2 g3 (I1.hok.fresh (Nat.le_refl _))⟩
  have hb : b < h'.objs.size := Heap.lt_size e
  rw [PyProof.Rows.sortedHeap_old (Nat.ne_of_lt hb) (by rw [size_push']; exact Nat.lt_succ_of_lt hb)]
  exact Heap.get?_push_of_some _ e

/-- the key tuples, as data -/
def keyVP (enc : List Key → PyData) (kvs : List (List Key × V)) (bs : List Addr) : List VP := (bs.zip kvs).map fun z => (V.ref z.1, enc z.2.1)
/-- sorted(d) of a dict with tuple keys -/
def rSortDT (K : PySem.W.Frag) : List V → Hp → VK → Prop := fun xs H Q => ∃ (a : Addr) (kvs : List (List Key × V)) (enc : List Key → PyData), xs = [.ref a] ∧ Rd H a (.dT kvs) ∧
    (∀ bs, IsKeys H kvs bs → ∀ b ∈ keyVP enc kvs bs, Dp K H b.1 b.2) ∧ PySem.W.AllAlike (kvs.map fun p => enc p.1) ∧ PySem.W.Sortable (kvs.map fun p => enc p.1) ∧ (∀ p ∈ kvs, (enc p.1).depth ≤ 60) ∧
    ∀ p bs, H p = none → IsKeys H kvs bs → Q (.ref p) (upd H p (.lst (((keyVP enc kvs bs).mergeSort vpLe).map (·.1))))
theorem isKeys_len {H : Hp} : ∀ {kvs : List (List Key × V)} {bs : List Addr}, IsKeys H kvs bs → bs.length = kvs.length
  | _, _, .nil => rfl
  | _, _, .cons _ t => by rw [List.length_cons, List.length_cons, isKeys_len t]
theorem keyVP_snd {enc : List Key → PyData} {kvs : List (List Key × V)} {bs : List Addr} (h : bs.length = kvs.length) : (keyVP enc kvs bs).map (·.2) = kvs.map fun p => enc p.1 := by
  unfold keyVP
  rw [List.map_map]
  have : ((fun b : VP => b.2) ∘ fun z : Addr × (List Key × V) => (V.ref z.1, enc z.2.1)) = (fun p : List Key × V => enc p.1) ∘ Prod.snd := rfl
  rw [this, ← List.map_map, List.map_snd_zip (by omega)]
theorem keyVP_fst {enc : List Key → PyData} {kvs : List (List Key × V)} {bs : List Addr} (h : bs.length = kvs.length) : (keyVP enc kvs bs).map (·.1) = bs.map V.ref := by
  unfold keyVP
  rw [List.map_map]
  have : ((fun b : VP => b.1) ∘ fun z : Addr × (List Key × V) => (V.ref z.1, enc z.2.1)) = V.ref ∘ Prod.fst := rfl
  rw [this, ← List.map_map, List.map_fst_zip (by omega)]
theorem call_sortedDT (hc : X.calm = true) (hu : X.A.units + 64 < cLine) : CallR X (.builtin "sorted") (rSortDT X.K) := by
  intro pins s σ H xs us Q I r h
  obtain ⟨d, kvs, enc, rfl, hd, hdp, hal, hso, hdep, q⟩ := h
  obtain ⟨u, eu, rx⟩ := vals1 r
  subst eu
  cases rx
  obtain ⟨z, hs, ks, pr, o, es, ep, ho, hx, hdt, he, hn⟩ := (show ObjOk X.prog X.w H s.heap d (.dT kvs) from hd.ok I.hok)
  have l1 : es.size = ks.length := size_of_entries he
  have l2 : kvs.length = ks.length := Paired.length pr
  refine Calls.call_function_entry PyProof.Rows.kind_sorted PyProof.Rows.plain_sorted PyProof.Rows.entry_sorted (PyProof.Rows.args_sorted1 _) ?_
  unfold Builtin.«sorted»
  refine wpAny_bind (m := checkCount "sorted" 1 1 _) (wpAny_pure ?_)
  refine wpAny_bind (PySem.W.kdu_collect (A := X.A.in1) (kdl_raw hs hx hdt) (I.ok.hd hc) ho (by omega) fun h' tk acc' kp it => ?_)
  have ea : acc'.toList = ks.map fun x => Value.ref x.2.1 := by
    have hl : acc'.toList.length = ks.length := by rw [Array.length_toList, it.1]; exact l1
    apply List.ext_getElem?
    intro j
    rw [List.getElem?_map]
    cases hj : acc'.toList[j]? with
    | none =>
      have h1 := List.getElem?_eq_none_iff.mp hj
      rw [List.getElem?_eq_none (by omega)]
      all_goals rfl
    | some v =>
      obtain ⟨en, hen, hv⟩ := it.2 j v (by rw [← Array.getElem?_toList]; exact hj)
      have qe := entry_at he j
      rw [hen] at qe
      cases hb : ks[j]? with
      | none =>
        rw [hb] at qe
        exact nomatch (show some en = none from qe)
      | some b =>
        rw [hb] at qe
        have e2 : en = entryOfKey (tupleKind (mixKind X.prog X.w)) b := Option.some.inj qe
        rw [hv, e2]
        all_goals rfl
  have eb : acc'.toList = (ks.map fun x => x.2.1).map Value.ref := by rw [ea, List.map_map]; all_goals rfl
  have hK : IsKeys H kvs (ks.map fun x => x.2.1) := isKeys_of pr
  generalize (ks.map fun x => x.2.1) = bs at eb hK
  have hbl := isKeys_len hK
  have I1 : Inv X pins σ H { s with heap := h', toks := tk } := I.kept kp
  have rv : Vals ((keyVP enc kvs bs).map (·.1)) acc'.toList := by rw [keyVP_fst hbl, eb]; exact vals_refs _
  have e := vp_each rv
  have hsz : acc'.toList.length ≤ sizeLine := by rw [eb, List.length_map, hbl]; exact z
  refine wpAny_bind (wpAny_newList ?_ hsz)
  have hoL : (h'.push (seqObj "list" acc'.toList.toArray 0)).get? h'.objs.size = some (seqObj "list" acc'.toList.toArray 0) := Heap.get?_push_size _ rfl
  show wpAny _ _ _ _ _ { s with heap := h'.push (seqObj "list" acc'.toList.toArray 0), toks := tk }
  have er := each_and (S := fun u (b : VP) => ∃ as, Reads h' u b.2 as) e fun u b hb hr => Dp.reads I1 b.2 b.1 u (hdp bs hK b hb) hr
  have er' := each_and (S := fun u (b : VP) => ∃ as, Reads (PySem.W.sortingHeap (h'.push (seqObj "list" acc'.toList.toArray 0)) h'.objs.size acc'.toList) u b.2 as) er fun u b hb ⟨as, hr⟩ =>
    ⟨as, PyProof.Rows.Reads.keeps (fun b o q => PySem.W.sortingHeap_old (Nat.ne_of_lt (Heap.lt_size q)) (Heap.get?_push_of_some _ q)) hr⟩
  have hal' : PySem.W.AllAlike ((keyVP enc kvs bs).map (·.2)) := by rw [keyVP_snd hbl]; exact hal
  have hso' : PySem.W.Sortable ((keyVP enc kvs bs).map (·.2)) := by rw [keyVP_snd hbl]; exact hso
  refine wpAny_bind (wpAny_holding (wpAny_call_entry PyProof.Rows.slot_list_sort ⟨_, hoL, rfl⟩ PyProof.Rows.entry_list_sort
    (PySem.W.list_sort_vals (s := { s with heap := h'.push (seqObj "list" acc'.toList.toArray 0), toks := tk }) (κ := PySem.W.dataKind (PySem.W.sortingHeap (h'.push (seqObj "list" acc'.toList.toArray 0)) h'.objs.size acc'.toList) ((keyVP enc kvs bs).map (·.2))) hoL
      (PySem.W.SortsAt.data (s := { s with heap := PySem.W.sortingHeap (h'.push (seqObj "list" acc'.toList.toArray 0)) h'.objs.size acc'.toList, toks := tk }) (PySem.W.each_map (R := fun v d => ∃ as, Reads (PySem.W.sortingHeap (h'.push (seqObj "list" acc'.toList.toArray 0)) h'.objs.size acc'.toList) v d as) (fun b : VP => b.2) er') hal' hso' fun dd hdd => ?_)
      hsz ⟨.none, rfl, ?_⟩) (PyProof.Rows.args_list_sort _)))
  · rw [keyVP_snd hbl] at hdd
    obtain ⟨p, hp, rfl⟩ := List.mem_map.mp hdd
    have := hdep p hp
    show X.A.in1.in1.units + _ < cLine
    simp only [Around.in1]
    omega
  · have g := PySem.W.sortVals_data (R := fun u (b : VP) => RelV b.1 u) (enc := fun b : VP => b.2) false e er' hal'
    obtain ⟨e', he'⟩ := PyProof.Rows.sortedHeap_at (vs := acc'.toList) (out := (PySem.W.sortVals (PySem.W.dataKind (PySem.W.sortingHeap (h'.push (seqObj "list" acc'.toList.toArray 0)) h'.objs.size acc'.toList) ((keyVP enc kvs bs).map (·.2))) false acc'.toList acc'.toList).toArray) hoL
    have hlen : (((keyVP enc kvs bs).mergeSort vpLe).map (·.1)).length ≤ sizeLine := by
      rw [List.length_map, List.length_mergeSort, ← List.length_map (f := fun b : VP => b.2), keyVP_snd hbl, List.length_map]
      exact z
    refine wpAny_pure ⟨_, rfl, .ref h'.objs.size, upd H h'.objs.size (.lst (((keyVP enc kvs bs).mergeSort vpLe).map (·.1))), I1.laid (t' := tk) (fun b u e => ?_) (Nat.le_refl _)
      (show ObjOk X.prog X.w _ _ _ (.lst (((keyVP enc kvs bs).mergeSort vpLe).map (·.1))) from ⟨hlen, _, e', vp_vals g, he'⟩), rfl, q _ _ (I1.hok.fresh (Nat.le_refl _)) hK⟩
    have hb : b < h'.objs.size := Heap.lt_size e
    rw [PyProof.Rows.sortedHeap_old (Nat.ne_of_lt hb) (by rw [size_push']; exact Nat.lt_succ_of_lt hb)]
    exact Heap.get?_push_of_some _ e
end
end Lin

/-! Lin, part G: built-in functions. -/
namespace Lin
open PySem PySem.Spec PyProof.Rows L2

inductive RepHs (K : PySem.W.Frag) (B : Hp) (th : List Addr) (sg : L2.St) : List Hd → List V → Prop
  | nil : RepHs K B th sg [] []
  | cons {h : Hd} {hs : List Hd} {v : V} {vs : List V} : RepH K B th sg h v → RepHs K B th sg hs vs → RepHs K B th sg (h :: hs) (v :: vs)
theorem RepHs.fut {K : PySem.W.Frag} {B B' H H' : Hp} {th th' : List Addr} {sg : L2.St} (f : Fut B H th B' H' th') : ∀ {hs : List Hd} {vs : List V}, RepHs K B th sg hs vs → RepHs K B' th' sg hs vs
  | _, _, .nil => .nil
  | _, _, .cons r t => .cons (r.fut f) (RepHs.fut f t)

theorem maxI_mem : ∀ (n : Int) (ns : List Int), maxI (n :: ns) ∈ n :: ns
  | n, [] => List.mem_cons_self
  | n, m :: ns => by
    have ih := maxI_mem m ns
    show max n (maxI (m :: ns)) ∈ _
    rcases Int.le_total n (maxI (m :: ns)) with h | h
    · rw [Int.max_eq_right h]
      exact List.mem_cons_of_mem _ ih
    · rw [Int.max_eq_left h]
      exact List.mem_cons_self
theorem maxI_ge : ∀ (n : Int) (ns : List Int) (y : Int), y ∈ n :: ns → y ≤ maxI (n :: ns)
  | n, [], y, h => by
    rw [List.mem_singleton.mp h]
    exact Int.le_refl _
  | n, m :: ns, y, h => by
    show y ≤ max n (maxI (m :: ns))
    rcases List.mem_cons.mp h with rfl | h
    · exact Int.le_max_left _ _
    · exact Int.le_trans (maxI_ge m ns y h) (Int.le_max_right _ _)
theorem minI_mem : ∀ (n : Int) (ns : List Int), minI (n :: ns) ∈ n :: ns
  | n, [] => List.mem_cons_self
  | n, m :: ns => by
    have ih := minI_mem m ns
    show min n (minI (m :: ns)) ∈ _
    rcases Int.le_total n (minI (m :: ns)) with h | h
    · rw [Int.min_eq_left h]
      exact List.mem_cons_self
    · rw [Int.min_eq_right h]
      exact List.mem_cons_of_mem _ ih
theorem minI_le : ∀ (n : Int) (ns : List Int) (y : Int), y ∈ n :: ns → minI (n :: ns) ≤ y
  | n, [], y, h => by
    rw [List.mem_singleton.mp h]
    exact Int.le_refl _
  | n, m :: ns, y, h => by
    show min n (minI (m :: ns)) ≤ y
    rcases List.mem_cons.mp h with rfl | h
    · exact Int.min_le_left _ _
    · exact Int.le_trans (Int.min_le_right _ _) (minI_le m ns y h)
theorem insI_perm (x : Int) : ∀ r : List Int, (insI x r).Perm (x :: r)
  | [] => .refl _
  | y :: r => by
    show (if x ≤ y then x :: y :: r else y :: insI x r).Perm _
    split
    · exact .refl _
    · exact ((insI_perm x r).cons y).trans (.swap x y r)
theorem sortI_perm : ∀ r : List Int, (sortI r).Perm r
  | [] => .refl _
  | x :: r => (insI_perm x (sortI r)).trans ((sortI_perm r).cons x)
theorem insI_sorted (x : Int) : ∀ r : List Int, r.Pairwise (· ≤ ·) → (insI x r).Pairwise (· ≤ ·)
  | [], _ => List.pairwise_singleton _ _
  | y :: r, h => by
    have h' := List.pairwise_cons.mp h
    show (if x ≤ y then x :: y :: r else y :: insI x r).Pairwise _
    split
    · rename_i q
      refine List.pairwise_cons.mpr ⟨fun z hz => ?_, h⟩
      rcases List.mem_cons.mp hz with rfl | hz
      · exact q
      · exact Int.le_trans q (h'.1 z hz)
    · rename_i q
      refine List.pairwise_cons.mpr ⟨fun z hz => ?_, insI_sorted x r h'.2⟩
      rcases List.mem_cons.mp ((insI_perm x r).mem_iff.mp hz) with rfl | hz
      · omega
      · exact h'.1 z hz
theorem sortI_sorted : ∀ r : List Int, (sortI r).Pairwise (· ≤ ·)
  | [] => List.Pairwise.nil
  | x :: r => insI_sorted x _ (sortI_sorted r)

section
variable {X : Cx} {N : List Str} {sc : Scope} {k : Nat} {G : Gam} {nm : Nms} {xa : Nat → Addr}
def BltV (X : Cx) (b : Bt) (mu : Store) (rho : Env) (hs : List Hd) (d : Dat) : Prop :=
  ∃ r : List V → Hp → VK → Prop, ((∃ id, bootBuiltins (bltName b) = some (.builtin id) ∧ CallR X (.builtin id) r) ∨ ∃ T, bootBuiltins (bltName b) = some (.type T) ∧ CallR X (.type T) r) ∧
    ∀ (B H : Hp) (th : List Addr) (sg : L2.St) (vs : List V) (Q : VK), SR X.K B H th mu rho sg → RepHs X.K B th sg hs vs → GoV X.K B H th mu d Q → r vs H Q
def BltF (X : Cx) (b : Bt) (mu : Store) (rho : Env) (hs : List Hd) (ds : List Dat) : Prop :=
  ∃ r : List V → Hp → VK → Prop, ((∃ id, bootBuiltins (bltName b) = some (.builtin id) ∧ CallR X (.builtin id) r) ∨ ∃ T, bootBuiltins (bltName b) = some (.type T) ∧ CallR X (.type T) r) ∧
    ∀ (B H : Hp) (th : List Addr) (sg : L2.St) (vs : List V) (Q : VK), SR X.K B H th mu rho sg → RepHs X.K B th sg hs vs → GoF X.K B H th mu ds Q → r vs H Q
theorem BltF.v {b : Bt} {mu : Store} {rho : Env} {hs : List Hd} {ds : List Dat} (h : BltF X b mu rho hs ds) : BltV X b mu rho hs (.lst ds) := by
  obtain ⟨r, h1, h2⟩ := h
  exact ⟨r, h1, fun B H th sg vs Q s rs g => h2 B H th sg vs Q s rs g.fresh⟩
theorem bn_len : bootBuiltins (bltName .len) = some (.builtin "len") := by decide +kernel
theorem bn_sum : bootBuiltins (bltName .sum) = some (.builtin "sum") := by decide +kernel
theorem bn_max : bootBuiltins (bltName .max) = some (.builtin "max") := by decide +kernel
theorem bn_min : bootBuiltins (bltName .min) = some (.builtin "min") := by decide +kernel
theorem bn_all : bootBuiltins (bltName .all) = some (.builtin "all") := by decide +kernel
theorem bn_abs : bootBuiltins (bltName .abs) = some (.builtin "abs") := by decide +kernel
theorem bn_sorted : bootBuiltins (bltName .sorted) = some (.builtin "sorted") := by decide +kernel
theorem bn_tuple : bootBuiltins (bltName .tuple) = some (.type "tuple") := by decide +kernel
theorem bn_list : bootBuiltins (bltName .list) = some (.type "list") := by decide +kernel
theorem bn_int : bootBuiltins (bltName .int) = some (.type "int") := by decide +kernel
theorem blt_len {mu : Store} {rho : Env} {x : Hd} {ds : List Dat} (e : seqA rho mu x = some ds) : BltV X .len mu rho [x] (.int ds.length) := by
  refine ⟨_, .inl ⟨_, bn_len, call_len_seq⟩, fun B H th sg vs Q s rs q => ?_⟩
  cases rs with
  | cons r t =>
    cases t
    obtain ⟨a, ws, rfl, h1, h2⟩ := seqA_sound s r e
    exact ⟨a, ws, rfl, h1, by rw [h2.length]; exact q.here s.toSRc (.int _)⟩
theorem blt_sum (hc : X.calm = true) {mu : Store} {rho : Env} {x : Hd} {ns : List Int} (e : seqA rho mu x = some (ns.map .int)) : BltV X .sum mu rho [x] (.int ns.sum) := by
  by_cases q : ∃ xs, x = .dat (.tup xs)
  · obtain ⟨xs, rfl⟩ := q
    cases e
    refine ⟨_, .inl ⟨_, bn_sum, cr_sumT hc⟩, fun B H th sg vs Q s rs q => ?_⟩
    cases rs with
    | cons r t =>
      cases t
      cases r with
      | tup h1 h2 =>
        rw [h2.ints] at h1
        exact ⟨_, ns, rfl, .inl (.inl (s.ex _ _ h1)), q.here s.toSRc (.int _)⟩
  · have e2 : seqL rho mu x = some (ns.map .int) := by
      rw [← e]
      cases x with
      | own i => rfl
      | dat d =>
        cases d with
        | tup xs => exact absurd ⟨xs, rfl⟩ q
        | _ => rfl
    refine ⟨_, .inl ⟨_, bn_sum, cr_sum hc⟩, fun B H th sg vs Q s rs q => ?_⟩
    cases rs with
    | cons r t =>
      cases t
      obtain ⟨a, ws, rfl, h1, h2⟩ := seqL_sound s r e2
      rw [h2.ints] at h1
      exact ⟨_, ns, rfl, h1, q.here s.toSRc (.int _)⟩
theorem blt_max (hc : X.calm = true) {mu : Store} {rho : Env} {x : Hd} {n : Int} {ns : List Int} (e : seqA rho mu x = some ((n :: ns).map .int)) : BltV X .max mu rho [x] (.int (maxI (n :: ns))) := by
  have same : ∀ m, m ∈ n :: ns → (∀ y, y ∈ n :: ns → y ≤ m) → m = maxI (n :: ns) := fun m h1 h2 => Int.le_antisymm (maxI_ge n ns m h1) (h2 _ (maxI_mem n ns))
  by_cases q : ∃ xs, x = .dat (.tup xs)
  · obtain ⟨xs, rfl⟩ := q
    cases e
    refine ⟨_, .inl ⟨_, bn_max, cr_maxT hc⟩, fun B H th sg vs Q s rs q => ?_⟩
    cases rs with
    | cons r t =>
      cases t
      cases r with
      | tup h1 h2 =>
        rw [h2.ints] at h1
        exact ⟨_, n :: ns, rfl, .inl (.inl (s.ex _ _ h1)), Nat.succ_pos _, fun m g1 g2 => by rw [same m g1 g2]; exact q.here s.toSRc (.int _)⟩
  · have e2 : seqL rho mu x = some ((n :: ns).map .int) := by
      rw [← e]
      cases x with
      | own i => rfl
      | dat d =>
        cases d with
        | tup xs => exact absurd ⟨xs, rfl⟩ q
        | _ => rfl
    refine ⟨_, .inl ⟨_, bn_max, cr_max hc⟩, fun B H th sg vs Q s rs q => ?_⟩
    cases rs with
    | cons r t =>
      cases t
      obtain ⟨a, ws, rfl, h1, h2⟩ := seqL_sound s r e2
      rw [h2.ints] at h1
      exact ⟨_, n :: ns, rfl, h1, Nat.succ_pos _, fun m g1 g2 => by rw [same m g1 g2]; exact q.here s.toSRc (.int _)⟩
theorem blt_min (hc : X.calm = true) {mu : Store} {rho : Env} {x : Hd} {n : Int} {ns : List Int} (e : seqA rho mu x = some ((n :: ns).map .int)) : BltV X .min mu rho [x] (.int (minI (n :: ns))) := by
  have same : ∀ m, m ∈ n :: ns → (∀ y, y ∈ n :: ns → m ≤ y) → m = minI (n :: ns) := fun m h1 h2 => Int.le_antisymm (h2 _ (minI_mem n ns)) (minI_le n ns m h1)
  by_cases q : ∃ xs, x = .dat (.tup xs)
  · obtain ⟨xs, rfl⟩ := q
    cases e
    refine ⟨_, .inl ⟨_, bn_min, cr_minT hc⟩, fun B H th sg vs Q s rs q => ?_⟩
    cases rs with
    | cons r t =>
      cases t
      cases r with
      | tup h1 h2 =>
        rw [h2.ints] at h1
        exact ⟨_, n :: ns, rfl, .inl (.inl (s.ex _ _ h1)), Nat.succ_pos _, fun m g1 g2 => by rw [same m g1 g2]; exact q.here s.toSRc (.int _)⟩
  · have e2 : seqL rho mu x = some ((n :: ns).map .int) := by
      rw [← e]
      cases x with
      | own i => rfl
      | dat d =>
        cases d with
        | tup xs => exact absurd ⟨xs, rfl⟩ q
        | _ => rfl
    refine ⟨_, .inl ⟨_, bn_min, cr_min hc⟩, fun B H th sg vs Q s rs q => ?_⟩
    cases rs with
    | cons r t =>
      cases t
      obtain ⟨a, ws, rfl, h1, h2⟩ := seqL_sound s r e2
      rw [h2.ints] at h1
      exact ⟨_, n :: ns, rfl, h1, Nat.succ_pos _, fun m g1 g2 => by rw [same m g1 g2]; exact q.here s.toSRc (.int _)⟩
theorem max_if (i j : Int) : (if j > i then j else i) = max i j := by
  split
  · rw [Int.max_eq_right (by omega)]
  · rw [Int.max_eq_left (by omega)]
theorem min_if (i j : Int) : (if j < i then j else i) = min i j := by
  split
  · rw [Int.min_eq_right (by omega)]
  · rw [Int.min_eq_left (by omega)]
theorem min3_nu (i j l : Int) : nuMin3 (.int i) (.int j) (.int l) = some (.int (min (min i j) l)) := by
  have h2 : ∀ a b : Int, nuMin2 (.int a) (.int b) = some (.int (min a b)) := fun a b => by
    show some (if decide (b < a) = true then V.int b else V.int a) = _
    rw [← min_if]
    by_cases hq : b < a <;> simp [hq]
  unfold nuMin3
  rw [h2]
  exact h2 _ _
theorem dintK_some : ∀ {kvs : List (Dat × Dat)} {ns : List Int}, dintK kvs = some ns → kvs.map (·.1) = ns.map .int
  | [], ns, h => by cases h; rfl
  | (k, d) :: r, ns, h => by
    cases k with
    | int i =>
      have h' : (dintK r).map (i :: ·) = some ns := h
      cases q : dintK r with
      | none => rw [q] at h'; cases h'
      | some m => rw [q] at h'; cases h'; rw [List.map_cons, List.map_cons, dintK_some q]
    | _ => cases h
theorem drepK_keys {K : PySem.W.Frag} {B : Hp} {th : List Addr} : ∀ {kvs : List (Dat × Dat)} {ws : List (Key × V)} {ns : List Int}, DRepK K B th kvs ws → kvs.map (·.1) = ns.map .int → ws.map (·.1) = ns.map Sum.inl
  | _, _, [], .nil, _ => rfl
  | _, _, _ :: _, .nil, h => by cases h
  | _, _, [], .cons _ _, h => by cases h
  | _, _, n :: ns, .cons (k := k) r t, h => by
    rw [List.map_cons, List.map_cons] at h
    injection h with h1 h2
    rw [List.map_cons, List.map_cons, drepK_keys t h2]
    cases k with
    | inl i =>
      have e : Dat.int i = Dat.int n := h1
      injection e with e
      rw [e]
    | inr x => cases h1
/-- sorted of data -/
def pairB (ps : List (V × Dat)) : List VP := ps.map fun b => (b.1, pdk b.2)
theorem reps_zip {K : PySem.W.Frag} {B : Hp} {th : List Addr} : ∀ {ds : List Dat} {vs : List V}, Reps K B th ds vs → ∀ b ∈ vs.zip ds, Rep K B th b.2 b.1
  | _, _, .nil, b, h => by cases h
  | _, _, .cons r t, b, h => by
    rcases List.mem_cons.mp h with e | e
    · rw [e]; exact r
    · exact reps_zip t b e
theorem reps_of {K : PySem.W.Frag} {B : Hp} {th : List Addr} : ∀ {l : List (V × Dat)}, (∀ b ∈ l, Rep K B th b.2 b.1) → Reps K B th (l.map (·.2)) (l.map (·.1))
  | [], _ => .nil
  | b :: l, h => .cons (h b List.mem_cons_self) (reps_of fun c hc => h c (List.mem_cons_of_mem _ hc))
theorem pds_mem : ∀ {ds : List Dat} {ps : List PyData}, pds ds = some ps → ds.map pdk = ps ∧ ∀ d ∈ ds, pd d = some (pdk d)
  | [], ps, h => by cases h; exact ⟨rfl, fun d h => by cases h⟩
  | d :: ds, ps, h => by
    have h' : (match pd d, pds ds with | some x, some xs => some (x :: xs) | _, _ => none) = some ps := h
    cases q1 : pd d with
    | none => rw [q1] at h'; cases h'
    | some x =>
      cases q2 : pds ds with
      | none => rw [q1, q2] at h'; cases h'
      | some xs =>
        rw [q1, q2] at h'
        cases h'
        obtain ⟨g1, g2⟩ := pds_mem q2
        have e : pdk d = x := by unfold pdk; rw [q1]; rfl
        refine ⟨by rw [List.map_cons, e, g1], fun y hy => ?_⟩
        rcases List.mem_cons.mp hy with z | z
        · rw [z, q1, e]
        · exact g2 y z
theorem blt_sortD (hc : Ctx X N sc k G nm xa) {mu : Store} {rho : Env} {x : Hd} {ds : List Dat} {ps : List PyData} (q : seqL rho mu x = some ds) (z : pds ds = some ps) (ok : sortOk ps = true) : BltF X .sorted mu rho [x] (sortD ds) := by
  have hu : X.A.units + 64 < cLine := by have := hc.room.units; omega
  refine ⟨_, .inl ⟨_, bn_sorted, cr_sortedD hu⟩, fun B H th sg vs Q s rs g => ?_⟩
  cases rs with
  | cons r t =>
    cases t
    obtain ⟨a, ws, rfl, h1, h2⟩ := seqL_sound s r q
    obtain ⟨e1, e2⟩ := pds_mem z
    have hlen := h2.length
    unfold sortOk at ok
    rw [Bool.and_eq_true, Bool.and_eq_true] at ok
    obtain ⟨⟨o1, o2⟩, o3⟩ := ok
    have ef : (pairB (ws.zip ds)).map (·.1) = ws := by
      unfold pairB
      rw [List.map_map]
      exact List.map_fst_zip (by omega)
    have es : (pairB (ws.zip ds)).map (·.2) = ps := by
      unfold pairB
      rw [List.map_map, ← e1]
      have : ((fun (b : VP) => b.2) ∘ fun (b : V × Dat) => (b.1, pdk b.2)) = pdk ∘ Prod.snd := rfl
      rw [this, ← List.map_map, List.map_snd_zip (by omega)]
    have hz := reps_zip h2
    refine ⟨a, pairB (ws.zip ds), rfl, by rw [ef]; exact h1, fun b hb => ?_, ?_, ?_, fun b hb => ?_, fun p hn => ?_⟩
    · obtain ⟨c, hc, rfl⟩ := List.mem_map.mp hb
      exact rep_dp s.ex (hz c hc) (e2 _ (List.of_mem_zip hc).2)
    · rw [es]
      intro d hd d' hd'
      exact List.all_eq_true.mp (List.all_eq_true.mp o1 d hd) d' hd'
    · rw [es]
      refine .inl fun d hd => ?_
      have := List.all_eq_true.mp o2 d hd
      cases d with
      | tuple xs =>
        cases xs with
        | nil => cases this
        | cons y r => exact ⟨y, r, rfl⟩
      | _ => cases this
    · have hm : b.2 ∈ ps := by rw [← es]; exact List.mem_map.mpr ⟨b, hb, rfl⟩
      exact of_decide_eq_true (List.all_eq_true.mp o3 _ hm)
    · have m1 : ((pairB (ws.zip ds)).mergeSort vpLe).map (·.1) = ((ws.zip ds).mergeSort fun b c => vpLe (b.1, pdk b.2) (c.1, pdk c.2)).map (·.1) := by
        unfold pairB
        rw [← List.map_mergeSort (f := fun b : V × Dat => ((b.1, pdk b.2) : VP)) (r := fun b c => vpLe (b.1, pdk b.2) (c.1, pdk c.2)) fun _ _ _ _ => rfl, List.map_map]
        rfl
      have m2 : sortD ds = ((ws.zip ds).mergeSort fun b c => vpLe (b.1, pdk b.2) (c.1, pdk c.2)).map (·.2) := by
        unfold sortD
        rw [List.map_mergeSort (f := fun b : V × Dat => b.2) (r := fun b c => vpLe (b.1, pdk b.2) (c.1, pdk c.2)) (s := PySem.W.dataLe false pdk) fun _ _ _ _ => rfl, List.map_snd_zip (by omega)]
      rw [m2] at g
      rw [m1]
      exact g.lst s.toSRc (reps_of fun b hb => hz b ((List.mergeSort_perm _ _).mem_iff.mp hb)) hn
theorem sort_reps {K : PySem.W.Frag} {B : Hp} {th : List Addr} {ds : List Dat} {ws : List V} (h2 : Reps K B th ds ws) : Reps K B th (sortD ds) (((pairB (ws.zip ds)).mergeSort vpLe).map (·.1)) := by
  have hlen := h2.length
  have hz := reps_zip h2
  have m1 : ((pairB (ws.zip ds)).mergeSort vpLe).map (·.1) = ((ws.zip ds).mergeSort fun b c => vpLe (b.1, pdk b.2) (c.1, pdk c.2)).map (·.1) := by
    unfold pairB
    rw [← List.map_mergeSort (f := fun b : V × Dat => ((b.1, pdk b.2) : VP)) (r := fun b c => vpLe (b.1, pdk b.2) (c.1, pdk c.2)) fun _ _ _ _ => rfl, List.map_map]
    rfl
  have m2 : sortD ds = ((ws.zip ds).mergeSort fun b c => vpLe (b.1, pdk b.2) (c.1, pdk c.2)).map (·.2) := by
    unfold sortD
    rw [List.map_mergeSort (f := fun b : V × Dat => b.2) (r := fun b c => vpLe (b.1, pdk b.2) (c.1, pdk c.2)) (s := PySem.W.dataLe false pdk) fun _ _ _ _ => rfl, List.map_snd_zip (by omega)]
  rw [m1, m2]
  exact reps_of fun b hb => hz b ((List.mergeSort_perm _ _).mem_iff.mp hb)
theorem sortOk_of {ps : List PyData} (ok : sortOk ps = true) : PySem.W.AllAlike ps ∧ PySem.W.Sortable ps ∧ ∀ p ∈ ps, p.depth ≤ 60 := by
  unfold sortOk at ok
  rw [Bool.and_eq_true, Bool.and_eq_true] at ok
  obtain ⟨⟨o1, o2⟩, o3⟩ := ok
  refine ⟨fun d hd d' hd' => List.all_eq_true.mp (List.all_eq_true.mp o1 d hd) d' hd', .inl fun d hd => ?_, fun p hp => of_decide_eq_true (List.all_eq_true.mp o3 _ hp)⟩
  have := List.all_eq_true.mp o2 d hd
  cases d with
  | tuple xs =>
    cases xs with
    | nil => cases this
    | cons y r => exact ⟨y, r, rfl⟩
  | _ => cases this
theorem drepT_keys {K : PySem.W.Frag} {B : Hp} {th : List Addr} : ∀ {kvs : List (Dat × Dat)} {ws : List (List Key × V)}, DRepT K B th kvs ws → kvs.map (·.1) = ws.map fun p => Dat.tup (p.1.map keyD)
  | _, _, .nil => rfl
  | _, _, .cons r t => by rw [List.map_cons, List.map_cons, drepT_keys t]
theorem rep_keyD {K : PySem.W.Frag} {B : Hp} {th : List Addr} (k : Key) : Rep K B th (keyD k) (kV k) := by
  cases k with
  | inl i => exact .int i
  | inr x => exact .str x
theorem reps_keyD {K : PySem.W.Frag} {B : Hp} {th : List Addr} : ∀ ks : List Key, Reps K B th (ks.map keyD) (ks.map kV)
  | [] => .nil
  | k :: ks => .cons (rep_keyD k) (reps_keyD ks)
theorem isKeys_reps {K : PySem.W.Frag} {B H : Hp} {th : List Addr} : ∀ {ws : List (List Key × V)} {bs : List Addr}, IsKeys H ws bs → (∀ b ∈ bs, B b = H b) → Reps K B th (ws.map fun p => Dat.tup (p.1.map keyD)) (bs.map V.ref)
  | _, _, .nil, _ => .nil
  | _, _, .cons h t, e => .cons (.tup (by rw [e _ List.mem_cons_self]; exact h) (reps_keyD _)) (isKeys_reps t fun b hb => e b (List.mem_cons_of_mem _ hb))
theorem isKeys_tup {H : Hp} : ∀ {ws : List (List Key × V)} {bs : List Addr}, IsKeys H ws bs → ∀ b ∈ bs, ∃ vs, H b = some (.tup vs)
  | _, _, .nil, b, h => by cases h
  | _, _, .cons q t, b, h => by
    rcases List.mem_cons.mp h with e | e
    · rw [e]; exact ⟨_, q⟩
    · exact isKeys_tup t b e
theorem keyVP_pairB {ws : List (List Key × V)} {bs : List Addr} : keyVP (fun k => pdk (.tup (k.map keyD))) ws bs = pairB ((bs.map V.ref).zip (ws.map fun p => Dat.tup (p.1.map keyD))) := by
  unfold keyVP pairB
  rw [List.zip_map, List.map_map]
  rfl
theorem mem_pairB {ds : List Dat} {vs : List V} {b : VP} (h : b ∈ pairB (vs.zip ds)) : ∃ c ∈ vs.zip ds, b = (c.1, pdk c.2) := by
  obtain ⟨c, hc, rfl⟩ := List.mem_map.mp h
  exact ⟨c, hc, rfl⟩
theorem blt_sortDictT (hc : Ctx X N sc k G nm xa) {mu : Store} {rho : Env} {x : Hd} {kvs : List (Dat × Dat)} {ps : List PyData} (q : dicOf rho mu x = some (true, kvs)) (z : pds (kvs.map (·.1)) = some ps) (ok : sortOk ps = true) :
    BltF X .sorted mu rho [x] (sortD (kvs.map (·.1))) := by
  have hu : X.A.units + 64 < cLine := by have := hc.room.units; omega
  refine ⟨_, .inl ⟨_, bn_sorted, call_sortedDT hc.calm hu⟩, fun B H th sg vs Q s rs g => ?_⟩
  cases rs with
  | cons r t =>
    cases t
    obtain ⟨a, rfl, hk⟩ := dicOf_sound s r q
    obtain ⟨ws, hd, hw⟩ : ∃ ws, H a = some (.dT ws) ∧ DRepT X.K B th kvs ws := by
      rcases hk with ⟨w, _⟩ | ⟨_, w⟩
      · cases w
      · exact w
    have ek := drepT_keys hw
    obtain ⟨e1, e2⟩ := pds_mem z
    obtain ⟨o1, o2, o3⟩ := sortOk_of ok
    have em : (ws.map fun p => pdk (.tup (p.1.map keyD))) = ps := by
      rw [← e1, ek, List.map_map]
      rfl
    refine ⟨a, ws, fun k => pdk (.tup (k.map keyD)), rfl, .inl hd, fun bs hb b hm => ?_, by rw [em]; exact o1, by rw [em]; exact o2, fun p hp => ?_, fun p bs hn hb => ?_⟩
    · rw [keyVP_pairB] at hm
      obtain ⟨c, hc, rfl⟩ := mem_pairB hm
      have rr : Reps X.K H th (ws.map fun p => Dat.tup (p.1.map keyD)) (bs.map V.ref) := isKeys_reps hb fun _ _ => rfl
      refine rep_dp (Ex.refl H) (reps_zip rr c hc) (e2 _ ?_)
      rw [ek]
      exact (List.of_mem_zip hc).2
    · exact o3 _ (by rw [← em]; exact List.mem_map.mpr ⟨p, hp, rfl⟩)
    · obtain ⟨B', s', f', hB⟩ := s.toSRc.keepTups bs (isKeys_tup hb)
      have rr : Reps X.K B' th (ws.map fun p => Dat.tup (p.1.map keyD)) (bs.map V.ref) := isKeys_reps hb hB
      rw [keyVP_pairB]
      have srt := sort_reps rr
      rw [← ek] at srt ⊢
      exact GoF.lst s' (fun p vs B'' H' th' s'' f'' h1 h2 h3 h4 h5 => g p vs B'' H' th' s'' (f'.trans f'') h1 h2 h3 h4 h5) srt hn
theorem blt_sortDict (hc : Ctx X N sc k G nm xa) {mu : Store} {rho : Env} {x : Hd} {kvs : List (Dat × Dat)} {ns : List Int} (q : dicOf rho mu x = some (false, kvs)) (z : dintK kvs = some ns) : BltF X .sorted mu rho [x] ((sortI ns).map .int) := by
  refine ⟨_, .inl ⟨_, bn_sorted, call_sortedDI2 hc.calm⟩, fun B H th sg vs Q s rs g => ?_⟩
  cases rs with
  | cons r t =>
    cases t
    obtain ⟨a, rfl, hk⟩ := dicOf_sound s r q
    obtain ⟨ws, hd, hw⟩ : ∃ ws, H a = some (.dK ws) ∧ DRepK X.K B th kvs ws := by
      rcases hk with ⟨_, w⟩ | ⟨w, _⟩
      · exact w
      · cases w
    exact ⟨a, ws, ns, rfl, .inl hd, drepK_keys hw (dintK_some z), fun ns' p hp hs hn => by
      have e : ns' = sortI ns := PySem.W.ksm_same (hp.trans (sortI_perm ns).symm) hs (sortI_sorted ns)
      rw [e]
      exact g.lst s.toSRc (Reps.ofInts _) hn⟩
theorem blt_rule (hc : Ctx X N sc k G nm xa) {b : Bt} {mu : Store} {rho : Env} {xs : List Hd} {d : Dat} (h : bltD rho mu b xs = some d) : BltV X b mu rho xs d ∧ ∀ ds, d = .lst ds → BltF X b mu rho xs ds := by
  unfold bltD at h
  split at h
  · rename_i x
    cases q : seqA rho mu x with
    | none => rw [q] at h; cases h
    | some ds => rw [q] at h; cases h; exact ⟨blt_len q, fun _ e => nomatch e⟩
  · rename_i x
    split at h
    · rename_i ds q
      cases z : ints? ds with
      | none => rw [z] at h; cases h
      | some ns => rw [z] at h; cases h; exact ⟨blt_sum hc.calm (by rw [q, ints?_some z]), fun _ e => nomatch e⟩
    · cases h
  · rename_i x
    split at h
    · rename_i ds q
      split at h
      · rename_i n ns z
        cases h
        exact ⟨blt_max hc.calm (by rw [q, ints?_some z]), fun _ e => nomatch e⟩
      · cases h
    · cases h
  · rename_i x
    split at h
    · rename_i ds q
      split at h
      · rename_i n ns z
        cases h
        exact ⟨blt_min hc.calm (by rw [q, ints?_some z]), fun _ e => nomatch e⟩
      · cases h
    · cases h
  · rename_i i j
    cases h
    refine ⟨⟨_, .inl ⟨_, bn_max, call_max2 hc.calm⟩, fun B H th sg vs Q s rs q => ?_⟩, fun _ e => nomatch e⟩
    cases rs with
    | cons r t =>
      cases t with
      | cons r2 t =>
        cases t
        cases r
        cases r2
        exact ⟨i, j, rfl, by rw [max_if]; exact q.here s.toSRc (.int _)⟩
  · rename_i i j
    cases h
    refine ⟨⟨_, .inl ⟨_, bn_min, call_min2 hc.calm⟩, fun B H th sg vs Q s rs q => ?_⟩, fun _ e => nomatch e⟩
    cases rs with
    | cons r t =>
      cases t with
      | cons r2 t =>
        cases t
        cases r
        cases r2
        exact ⟨i, j, rfl, by rw [min_if]; exact q.here s.toSRc (.int _)⟩
  · rename_i i j l
    cases h
    refine ⟨⟨_, .inl ⟨_, bn_min, call_min3Nu hc.calm⟩, fun B H th sg vs Q s rs q => ?_⟩, fun _ e => nomatch e⟩
    cases rs with
    | cons r t =>
      cases t with
      | cons r2 t =>
        cases t with
        | cons r3 t =>
          cases t
          cases r
          cases r2
          cases r3
          exact ⟨.int i, .int j, .int l, .int (min (min i j) l), rfl, min3_nu i j l, q.here s.toSRc (.int _)⟩
  · rename_i x
    split at h
    · rename_i ds q
      cases z : bls? ds with
      | none => rw [z] at h; cases h
      | some bs =>
        rw [z] at h
        cases h
        refine ⟨⟨_, .inl ⟨_, bn_all, cr_all hc.calm⟩, fun B H th sg vs Q s rs g => ?_⟩, fun _ e => nomatch e⟩
        cases rs with
        | cons r t =>
          cases t
          obtain ⟨a, ws, rfl, h1, h2⟩ := seqL_sound s r q
          rw [bls?_some z] at h2
          rw [h2.bls] at h1
          exact ⟨a, bs, rfl, h1, g.here s.toSRc (.bl _)⟩
    · cases h
  · rename_i i
    cases h
    refine ⟨⟨_, .inl ⟨_, bn_abs, call_abs⟩, fun B H th sg vs Q s rs q => ?_⟩, fun _ e => nomatch e⟩
    cases rs with
    | cons r t =>
      cases t
      cases r
      exact ⟨i, rfl, q.here s.toSRc (.int _)⟩
  · rename_i i
    cases h
    refine ⟨⟨_, .inr ⟨_, bn_int, call_int1⟩, fun B H th sg vs Q s rs q => ?_⟩, fun _ e => nomatch e⟩
    cases rs with
    | cons r t =>
      cases t
      cases r
      exact .inl ⟨i, rfl, q.here s.toSRc (.int _)⟩
  · rename_i i
    cases h
    refine ⟨⟨_, .inr ⟨_, bn_int, call_int1⟩, fun B H th sg vs Q s rs q => ?_⟩, fun _ e => nomatch e⟩
    cases rs with
    | cons r t =>
      cases t
      cases r
      exact .inr ⟨i, rfl, q.here s.toSRc (.int _)⟩
  · rename_i x
    cases q : seqA rho mu x with
    | none => rw [q] at h; cases h
    | some ds =>
      rw [q] at h
      cases h
      refine ⟨⟨_, .inr ⟨_, bn_tuple, call_tuple_of⟩, fun B H th sg vs Q s rs g => ?_⟩, fun _ e => nomatch e⟩
      cases rs with
      | cons r t =>
        cases t
        by_cases y : ∃ xs, x = .dat (.tup xs)
        · obtain ⟨xs, rfl⟩ := y
          cases q
          cases r with
          | tup h1 h2 => exact ⟨_, _, rfl, .inr ⟨.inl (.inl (s.ex _ _ h1)), g.here s.toSRc (.tup h1 h2)⟩⟩
        · have e2 : seqL rho mu x = some ds := by
            rw [← q]
            cases x with
            | own i => rfl
            | dat d =>
              cases d with
              | tup xs => exact absurd ⟨xs, rfl⟩ y
              | _ => rfl
          obtain ⟨a, ws, rfl, h1, h2⟩ := seqL_sound s r e2
          exact ⟨a, ws, rfl, .inl ⟨h1, fun p n => g.tup s.toSRc h2 n⟩⟩
  · rename_i x
    cases q : seqA rho mu x with
    | none => rw [q] at h; cases h
    | some ds =>
      rw [q] at h
      cases h
      have g : BltF X .list mu rho [x] ds := ⟨_, .inr ⟨_, bn_list, call_list_of⟩, fun B H th sg vs Q s rs g => by
        cases rs with
        | cons r t =>
          cases t
          obtain ⟨a, ws, rfl, h1, h2⟩ := seqA_sound s r q
          exact ⟨a, ws, rfl, h1, fun p n => g.lst s.toSRc h2 n⟩⟩
      exact ⟨g.v, fun ds' e => by cases e; exact g⟩
  · rename_i x
    split at h
    · rename_i ds q
      split at h
      · rename_i ns z
        cases h
        have g : BltF X .sorted mu rho [x] ((sortI ns).map .int) := ⟨_, .inl ⟨_, bn_sorted, cr_sortedI⟩, fun B H th sg vs Q s rs g => by
          cases rs with
          | cons r t =>
            cases t
            obtain ⟨a, ws, rfl, h1, h2⟩ := seqL_sound s r q
            rw [ints?_some z] at h2
            rw [h2.ints] at h1
            refine ⟨a, ns, rfl, h1, fun ns' p hp hs hn => ?_⟩
            have e : ns' = sortI ns := PySem.W.ksm_same (hp.trans (sortI_perm ns).symm) hs (sortI_sorted ns)
            rw [e]
            exact g.lst s.toSRc (Reps.ofInts _) hn⟩
        exact ⟨g.v, fun ds' e => by cases e; exact g⟩
      · split at h
        · rename_i ps z
          split at h
          · rename_i ok
            cases h
            have g := blt_sortD (X := X) hc q z ok
            exact ⟨g.v, fun ds' e => by cases e; exact g⟩
          · cases h
        · cases h
    · split at h
      · rename_i kvs q
        split at h
        · rename_i ns z
          have g := blt_sortDict (X := X) hc q z
          split at h
          · cases h
            exact ⟨g.v, fun ds' e => by cases e; exact g⟩
          · split at h
            · cases h
              exact ⟨g.v, fun ds' e => by cases e; exact g⟩
            · cases h
        · cases h
      · rename_i kvs q
        split at h
        · rename_i ps z
          split at h
          · rename_i ok
            cases h
            have g := blt_sortDictT (X := X) hc q z ok
            exact ⟨g.v, fun ds' e => by cases e; exact g⟩
          · cases h
        · cases h
      · cases h
  · cases h
end
end Lin

set_option maxHeartbeats 1000000
/-! Lin, part H: every expression computes what ev says. -/
namespace Lin
open PySem PySem.Spec PyProof.Rows L2

def tHs (K : PySem.W.Frag) (rho : Env) (mu : Store) (hs : List Hd) (mu' : Store) : TA := fun sg H Q => ∃ B th, SR K B H th mu rho sg ∧
  ∀ vs B' H' th', SRc K B' H' th' mu' → Fut B H th B' H' th' → RepHs K B' th' sg hs vs → Q vs H'
def tOp' (K : PySem.W.Frag) (rho : Env) (mu : Store) (o : Option Int) (mu' : Store) : TO := fun sg H Q => ∃ B th, SR K B H th mu rho sg ∧
  ∀ B' H' th', SRc K B' H' th' mu' → Fut B H th B' H' th' → Q o H'
/-- what an iteration yields -/
structure ItOk (K : PySem.W.Frag) (B : Hp) (th : List Addr) (J : It) (ds : List Dat) : Prop where
  go : ∀ i H, Ex B H → i < ds.length → J.go i H
  stop : ∀ i H, Ex B H → ds.length ≤ i → J.stop i H
  yld : ∀ i H x H' d, Ex B H → ds[i]? = some d → J.yld i H x H' → (H' = H ∧ Rep K B th d x) ∨ ∃ p y z d1 d2, d = .tup [d1, d2] ∧ H p = none ∧ H' = upd H p (.tup [y, z]) ∧ x = .ref p ∧ Rep K B th d1 y ∧ Rep K B th d2 z
def tIt (K : PySem.W.Frag) (rho : Env) (mu : Store) (ds : List Dat) (mu' : Store) : TI := fun sg H R => ∃ B th, SR K B H th mu rho sg ∧
  ∀ J B' H' th', SRc K B' H' th' mu' → Fut B H th B' H' th' → ItOk K B' th' J ds → R J H'

/-- a list that nobody else holds -/
def isFr : E → Bool
  | .lst _ => true
  | .op _ _ _ => true
  | .rep _ _ => true
  | .slc _ _ _ => true
  | .blt .list _ => true
  | .blt .sorted _ => true
  | .lc _ _ _ _ _ => true
  | .lstR1 _ => true
  | .lstR2 _ _ => true
  | _ => false
structure Snd (nm : Nms) (xa : Nat → Addr) (e : E) : Prop where
  v : ∀ {X : Cx} {N : List Str} {sc : Scope} {k : Nat} {G : Gam} {x : Expr} {rho : Env} {mu mu' : Store} {h : Hd}, Ctx X N sc k G nm xa → mE nm N sc e x = true → ev G e rho mu = some (h, mu') → PE X x (tV X.K rho mu h mu')
  t : ∀ {X : Cx} {N : List Str} {sc : Scope} {k : Nat} {G : Gam} {x : Expr} {rho : Env} {mu mu' : Store} {b : Bool}, Ctx X N sc k G nm xa → mE nm N sc e x = true → ev G e rho mu = some (.dat (.bl b), mu') → PT X x (tTs X.K rho mu b mu')
  f : ∀ {X : Cx} {N : List Str} {sc : Scope} {k : Nat} {G : Gam} {x : Expr} {rho : Env} {mu mu' : Store} {ds : List Dat}, Ctx X N sc k G nm xa → isFr e = true → mE nm N sc e x = true → ev G e rho mu = some (.dat (.lst ds), mu') → PE X x (tF X.K rho mu ds mu')
  a : ∀ {X : Cx} {N : List Str} {sc : Scope} {k : Nat} {G : Gam} {xs : List Expr} {rho : Env} {mu mu' : Store} {ds : List Dat}, Ctx X N sc k G nm xa → mEs nm N sc e xs = true → evA G e rho mu = some (ds, mu') → PA X xs (tAr X.K rho mu ds mu')
  hs : ∀ {X : Cx} {N : List Str} {sc : Scope} {k : Nat} {G : Gam} {xs : List Expr} {rho : Env} {mu mu' : Store} {ds : List Hd}, Ctx X N sc k G nm xa → mEs nm N sc e xs = true → evHs G e rho mu = some (ds, mu') → PA X xs (tHs X.K rho mu ds mu')
  an : ∀ {X : Cx} {N : List Str} {sc : Scope} {k : Nat} {G : Gam} {xs : List Expr} {rho : Env} {mu mu' : Store} {h : Hd} {pos : Pos}, Ctx X N sc k G nm xa → mEs nm N sc e xs = true → evAnd G e rho mu = some (h, mu') → PE X (.BoolOp .And xs pos) (tV X.K rho mu h mu')
  anT : ∀ {X : Cx} {N : List Str} {sc : Scope} {k : Nat} {G : Gam} {xs : List Expr} {rho : Env} {mu mu' : Store} {b : Bool} {pos : Pos}, Ctx X N sc k G nm xa → mEs nm N sc e xs = true → evAnd G e rho mu = some (.dat (.bl b), mu') → PW X (.BoolOp .And xs pos) (tTs X.K rho mu b mu')
  or : ∀ {X : Cx} {N : List Str} {sc : Scope} {k : Nat} {G : Gam} {xs : List Expr} {rho : Env} {mu mu' : Store} {h : Hd} {pos : Pos}, Ctx X N sc k G nm xa → mEs nm N sc e xs = true → evOr G e rho mu = some (h, mu') → PE X (.BoolOp .Or xs pos) (tV X.K rho mu h mu')
  orT : ∀ {X : Cx} {N : List Str} {sc : Scope} {k : Nat} {G : Gam} {xs : List Expr} {rho : Env} {mu mu' : Store} {b : Bool} {pos : Pos}, Ctx X N sc k G nm xa → mEs nm N sc e xs = true → evOr G e rho mu = some (.dat (.bl b), mu') → PW X (.BoolOp .Or xs pos) (tTs X.K rho mu b mu')
  ts : ∀ {X : Cx} {N : List Str} {sc : Scope} {k : Nat} {G : Gam} {xs : List Expr} {rho : Env} {mu mu' : Store} {b : Bool}, Ctx X N sc k G nm xa → mEs nm N sc e xs = true → evTs G e rho mu = some (b, mu') → PTs X xs (tTs X.K rho mu b mu')
  o : ∀ {X : Cx} {N : List Str} {sc : Scope} {k : Nat} {G : Gam} {x : Option Expr} {rho : Env} {mu mu' : Store} {d : Option Int}, Ctx X N sc k G nm xa → mO nm N sc e x = true → evO G e rho mu = some (d, mu') → PO X x (tOp' X.K rho mu d mu')
  i : ∀ {X : Cx} {N : List Str} {sc : Scope} {k : Nat} {G : Gam} {x tg : Expr} {tp : Bool} {rho : Env} {mu mu' : Store} {ds : List Dat}, Ctx X N sc k G nm xa → mI nm N sc tp e x = true → (tp = true → ∃ es kk p, tg = .Tuple es kk p) → evI G e rho mu = some (ds, mu') → PI X tg x (tIt X.K rho mu ds mu')
end Lin

set_option maxHeartbeats 2000000
/-! Lin, part I: the cases. -/
namespace Lin
open PySem PySem.Spec PyProof.Rows L2

section
variable {K : PySem.W.Frag} {B B1 H H1 : Hp} {th th1 : List Addr} {mu mu' : Store} {d : Dat} {ds : List Dat} {Q : VK}
theorem GoV.at (q : GoV K B H th mu' d Q) (f : Fut B H th B1 H1 th1) : GoV K B1 H1 th1 mu' d Q := fun v B' H' th' s' f' r' => q v B' H' th' s' (f.trans f') r'
theorem GoF.at (q : GoF K B H th mu' ds Q) (f : Fut B H th B1 H1 th1) : GoF K B1 H1 th1 mu' ds Q := fun p vs B' H' th' s' f' hn hb hp hl hr => q p vs B' H' th' s' (f.trans f') (f.dom p hn) hb hp hl hr
end
section
variable {X : Cx} {x : Expr} {t : TE}
theorem pe_false : PE X x (fun _ _ _ => False) := ⟨fun _ _ _ _ _ _ h => h.elim⟩
theorem op_false {f : Value → Value → Sem Value} : OpR X f (fun _ _ _ _ => False) := fun _ _ _ _ _ _ _ _ _ _ _ _ h => h.elim
/-- a value that is a truth value, as a test -/
theorem pt_of {K : PySem.W.Frag} {rho : Env} {mu mu' : Store} {b : Bool} (h : PE X x (tV K rho mu (.dat (.bl b)) mu')) (he : ∀ whole, isTrue x X.env whole = (do let v ← whole; standAt x.pos; holding [v] (truthy v))) : PT X x (tTs K rho mu b mu') :=
  pt_mono (pt_val h he) fun sg H Q ⟨B, th, sr, q⟩ => ⟨B, th, sr, fun v B' H' th' s f r => by cases r; exact ⟨b, rfl, q B' H' th' s f⟩⟩
end

/-! ### what is a chain -/
def isCh : E → Bool
  | .anil => true
  | .acons _ _ => true
  | _ => false
def isIt : E → Bool
  | .items _ => true | .range1 _ => true | .range2 _ _ => true | .zip _ _ => true | .enum _ => true
  | _ => false
section
variable {nm : Nms} {N : List Str} {sc : Scope} {e : E} {xa : Nat → Addr}
theorem mEs_ch {xs : List Expr} (h : mEs nm N sc e xs = true) : isCh e = true := by
  cases xs with
  | nil => rw [mEs_nil h]; rfl
  | cons x xs => obtain ⟨a, r, rfl, _⟩ := mEs_cons h; rfl
theorem mO_ch {x : Option Expr} (h : mO nm N sc e x = true) : isCh e = true := by
  cases e with
  | anil => rfl
  | acons a r => rfl
  | _ => cases x <;> exact Bool.noConfusion (show false = true from h)
theorem mI_it {x : Expr} {tp : Bool} (h : mI nm N sc tp e x = true) : isIt e = true := by
  cases e with
  | items a => rfl
  | range1 a => rfl
  | range2 a b => rfl
  | zip a b => rfl
  | enum a => rfl
  | _ => cases x <;> exact Bool.noConfusion (show false = true from h)
theorem nope {P : Prop} (h : isCh e = true) (h' : isCh e = false) : P := by rw [h] at h'; cases h'
/-- an expression that is no chain and not walked -/
theorem Snd.ofV (h0 : isCh e = false) (h1 : isIt e = false)
    (v : ∀ {X : Cx} {N : List Str} {sc : Scope} {k : Nat} {G : Gam} {x : Expr} {rho : Env} {mu mu' : Store} {h : Hd}, Ctx X N sc k G nm xa → mE nm N sc e x = true → ev G e rho mu = some (h, mu') → PE X x (tV X.K rho mu h mu'))
    (t : ∀ {X : Cx} {N : List Str} {sc : Scope} {k : Nat} {G : Gam} {x : Expr} {rho : Env} {mu mu' : Store} {b : Bool}, Ctx X N sc k G nm xa → mE nm N sc e x = true → ev G e rho mu = some (.dat (.bl b), mu') → PT X x (tTs X.K rho mu b mu'))
    (f : ∀ {X : Cx} {N : List Str} {sc : Scope} {k : Nat} {G : Gam} {x : Expr} {rho : Env} {mu mu' : Store} {ds : List Dat}, Ctx X N sc k G nm xa → isFr e = true → mE nm N sc e x = true → ev G e rho mu = some (.dat (.lst ds), mu') → PE X x (tF X.K rho mu ds mu')) : Snd nm xa e where
  v := v
  t := t
  f := f
  a := fun _ h => nope (mEs_ch h) h0
  hs := fun _ h => nope (mEs_ch h) h0
  an := fun _ h => nope (mEs_ch h) h0
  anT := fun _ h => nope (mEs_ch h) h0
  or := fun _ h => nope (mEs_ch h) h0
  orT := fun _ h => nope (mEs_ch h) h0
  ts := fun _ h => nope (mEs_ch h) h0
  o := fun _ h => nope (mO_ch h) h0
  i := fun _ h => by rw [mI_it h] at h1; cases h1
/-- .. whose test is its value -/
theorem Snd.ofP (h0 : isCh e = false) (h1 : isIt e = false)
    (v : ∀ {X : Cx} {N : List Str} {sc : Scope} {k : Nat} {G : Gam} {x : Expr} {rho : Env} {mu mu' : Store} {h : Hd}, Ctx X N sc k G nm xa → mE nm N sc e x = true → ev G e rho mu = some (h, mu') → PE X x (tV X.K rho mu h mu'))
    (p : ∀ {N : List Str} {sc : Scope} {x : Expr}, mE nm N sc e x = true → ∀ env whole, isTrue x env whole = (do let v ← whole; standAt x.pos; holding [v] (truthy v)))
    (f : ∀ {X : Cx} {N : List Str} {sc : Scope} {k : Nat} {G : Gam} {x : Expr} {rho : Env} {mu mu' : Store} {ds : List Dat}, Ctx X N sc k G nm xa → isFr e = true → mE nm N sc e x = true → ev G e rho mu = some (.dat (.lst ds), mu') → PE X x (tF X.K rho mu ds mu')) : Snd nm xa e :=
  Snd.ofV h0 h1 v (fun hc hm he => pt_of (v hc hm he) (p hm _)) f
end

section
variable {nm : Nms} {xa : Nat → Addr}
theorem no_fr {P : Prop} (h : false = true) : P := Bool.noConfusion h
theorem and2 {a b : Bool} (h : (a && b) = true) : a = true ∧ b = true := by rw [Bool.and_eq_true] at h; exact h

theorem inv_var {N : List Str} {sc : Scope} {i : Nat} {x : Expr} (h : mE nm N sc (.var i) x = true) : ∃ y p, x = .Name y p ∧ N[i]? = some y ∧ visB sc y = true ∧ plainName y = true := by
  cases x with
  | Name y p =>
    have h' : (decide (N[i]? = some y) && visB sc y && plainName y) = true := h
    obtain ⟨h1, h3⟩ := and2 h'
    obtain ⟨h1, h2⟩ := and2 h1
    exact ⟨y, p, rfl, of_decide_eq_true h1, h2, h3⟩
  | _ => exact Bool.noConfusion (show false = true from h)
theorem plain_of {y : Str} (h : plainName y = true) : (y == ("__debug__" : Str)) = false ∧ (y == ("__classdict__" : Str)) = false ∧ y ≠ ("__name__" : Str) := by
  unfold plainName at h
  obtain ⟨h1, h3⟩ := and2 h
  obtain ⟨h1, h2⟩ := and2 h1
  refine ⟨by simpa using h1, by simpa using h2, fun e => ?_⟩
  rw [e] at h3
  exact Bool.noConfusion (show false = true from by simpa using h3)
theorem snd_var (i : Nat) : Snd nm xa (.var i) := by
  refine Snd.ofP rfl rfl (fun {X N sc k G x rho mu mu' h} hc hm he => ?_) (fun hm env wh => ?_) (fun _ h => no_fr h)
  · obtain ⟨y, p, rfl, h1, h2, h3⟩ := inv_var hm
    obtain ⟨p1, p2, _⟩ := plain_of h3
    refine pe_mono (pe_var (i := i) (by rw [hc.hN]; exact h1) (by rw [hc.hsc]; exact visB_of h2) p1 p2) fun sg H Q ⟨B, th, sr, q⟩ => ?_
    have he' : (match rho[i]? with | some (some (.dat d)) => some (Hd.dat d, mu) | some (some (.own _)) => some (Hd.own i, mu) | _ => none) = some (h, mu') := he
    split at he'
    · rename_i d e
      cases he'
      obtain ⟨v, h1, h2⟩ := sr.dat i d e
      exact ⟨v, h1, q v B H th sr.toSRc (.refl _ _ _) h2⟩
    · rename_i c e
      cases he'
      obtain ⟨a, o, h1, _⟩ := sr.own i c e
      exact ⟨.ref a, h1, q _ B H th sr.toSRc (.refl _ _ _) h1⟩
    · cases he'
  · obtain ⟨y, p, rfl, _⟩ := inv_var hm
    rfl
theorem snd_const {e : E} {d : Dat} {v : V} {c : Const} (h0 : isCh e = false) (h1 : isIt e = false) (h2 : isFr e = false) (hm : ∀ {N : List Str} {sc : Scope} {x : Expr}, mE nm N sc e x = true → ∃ j p, x = .Constant c j p)
    (he : ∀ (G : Gam) (rho : Env) (mu : Store), ev G e rho mu = some (.dat d, mu)) (hr : ∀ {K : PySem.W.Frag} {B : Hp} {th : List Addr}, Rep K B th d v) (hp : ∀ {X : Cx} {j : Nat} {p : Pos}, PE X (.Constant c j p) (tC v)) : Snd nm xa e := by
  refine Snd.ofP h0 h1 (fun {X N sc k G x rho mu mu' h} hc hx hv => ?_) (fun hx env wh => ?_) (fun _ h => by rw [h2] at h; cases h)
  · obtain ⟨j, p, rfl⟩ := hm hx
    rw [he] at hv
    cases hv
    exact pe_mono hp fun sg H Q ⟨B, th, sr, q⟩ => q v B H th sr.toSRc (.refl _ _ _) hr
  · obtain ⟨j, p, rfl⟩ := hm hx
    rfl
theorem snd_int (i : Int) : Snd nm xa (.int i) := by
  refine snd_const (c := .int i) rfl rfl rfl (fun {N sc x} h => ?_) (fun _ _ _ => rfl) (.int i) pe_int
  cases x with
  | Constant c j p =>
    cases c with
    | int z => have e : i = z := of_decide_eq_true h; subst e; exact ⟨j, p, rfl⟩
    | _ => exact Bool.noConfusion (show false = true from h)
  | _ => exact Bool.noConfusion (show false = true from h)
theorem snd_bl (i : Bool) : Snd nm xa (.bl i) := by
  refine snd_const (c := .bool i) rfl rfl rfl (fun {N sc x} h => ?_) (fun _ _ _ => rfl) (.bl i) pe_bl
  cases x with
  | Constant c j p =>
    cases c with
    | bool z => have e : i = z := of_decide_eq_true h; subst e; exact ⟨j, p, rfl⟩
    | _ => exact Bool.noConfusion (show false = true from h)
  | _ => exact Bool.noConfusion (show false = true from h)
theorem snd_str (i : Str) : Snd nm xa (.str i) := by
  refine snd_const (c := .str i) rfl rfl rfl (fun {N sc x} h => ?_) (fun _ _ _ => rfl) (.str i) pe_str
  cases x with
  | Constant c j p =>
    cases c with
    | str z => have e : i = z := of_decide_eq_true h; subst e; exact ⟨j, p, rfl⟩
    | _ => exact Bool.noConfusion (show false = true from h)
  | _ => exact Bool.noConfusion (show false = true from h)
theorem snd_non : Snd nm xa .non := by
  refine snd_const (c := .none) rfl rfl rfl (fun {N sc x} h => ?_) (fun _ _ _ => rfl) .non pe_non
  cases x with
  | Constant c j p =>
    cases c with
    | none => exact ⟨j, p, rfl⟩
    | _ => exact Bool.noConfusion (show false = true from h)
  | _ => exact Bool.noConfusion (show false = true from h)
theorem inv_glob {N : List Str} {sc : Scope} {g : Nat} {x : Expr} (h : mE nm N sc (.glob g) x = true) : ∃ p, x = .Name (nm.gc g) p ∧ glB sc (nm.gc g) = true ∧ plainName (nm.gc g) = true := by
  cases x with
  | Name y p =>
    have h' : (decide (y = nm.gc g) && glB sc y && plainName y) = true := h
    obtain ⟨h1, h3⟩ := and2 h'
    obtain ⟨h1, h2⟩ := and2 h1
    have e := of_decide_eq_true h1
    subst e
    exact ⟨p, rfl, h2, h3⟩
  | _ => exact Bool.noConfusion (show false = true from h)
theorem gl_of {X : Cx} {N : List Str} {sc : Scope} {k : Nat} {G : Gam} {y : Str} (hc : Ctx X N sc k G nm xa) (h : glB sc y = true) : Gl X y := by
  show X.env.scope.names.lookup y = _
  rw [hc.hsc]
  exact glB_of h
theorem snd_glob (g : Nat) : Snd nm xa (.glob g) := by
  refine Snd.ofP rfl rfl (fun {X N sc k G x rho mu mu' h} hc hx hv => ?_) (fun hx env wh => ?_) (fun _ h => no_fr h)
  · obtain ⟨p, rfl, h1, h2⟩ := inv_glob hx
    obtain ⟨d, e1, e2⟩ := dn_inv (show dn ((G.gc g).map .int) mu = some (h, mu') from hv)
    cases q : G.gc g with
    | none => rw [q] at e1; cases e1
    | some i =>
      rw [q] at e1
      cases e1
      cases e2
      obtain ⟨t, ht⟩ := hc.g.gc g i q
      exact pe_mono (pe_glob (v := .int i) (gl_of hc h1) ht ⟨t, rfl⟩ (plain_of h2).1) fun sg H Q ⟨B, th, sr, q⟩ => q _ B H th sr.toSRc (.refl _ _ _) (.int i)
  · obtain ⟨p, rfl, _⟩ := inv_glob hx
    rfl

theorem inv_tup {N : List Str} {sc : Scope} {as : E} {x : Expr} (h : mE nm N sc (.tup as) x = true) : ∃ xs j p, x = .Tuple xs j p ∧ mEs nm N sc as xs = true := by
  cases x with
  | Tuple xs j p => exact ⟨xs, j, p, rfl, h⟩
  | _ => exact Bool.noConfusion (show false = true from h)
theorem snd_tup {as : E} (A : Snd nm xa as) : Snd nm xa (.tup as) := by
  refine Snd.ofP rfl rfl (fun {X N sc k G x rho mu mu' h} hc hx hv => ?_) (fun hx env wh => ?_) (fun _ h => no_fr h)
  · obtain ⟨xs, j, p, rfl, h1⟩ := inv_tup hx
    obtain ⟨ds, m1, e1, e2⟩ := bd_inv hv
    split at e2
    · rename_i hl
      cases e2
      exact pe_mono (pe_tup (A.a hc h1 e1)) fun sg H Q ⟨B, th, sr, q⟩ => ⟨B, th, sr, fun vs B1 H1 th1 s1 f1 r1 => ⟨by rw [r1.length]; exact le_line hl, fun p n => GoV.tup s1 (GoV.at q f1) r1 n⟩⟩
    · cases e2
  · obtain ⟨xs, j, p, rfl, h1⟩ := inv_tup hx
    rfl
theorem inv_lst {N : List Str} {sc : Scope} {as : E} {x : Expr} (h : mE nm N sc (.lst as) x = true) : ∃ xs p, x = .List xs p ∧ mEs nm N sc as xs = true := by
  cases x with
  | List xs p => exact ⟨xs, p, rfl, h⟩
  | _ => exact Bool.noConfusion (show false = true from h)
theorem fr_lst {as : E} (A : Snd nm xa as) {X : Cx} {N : List Str} {sc : Scope} {k : Nat} {G : Gam} {xs : List Expr} {p : Pos} {rho : Env} {mu mu' : Store} {ds : List Dat} (hc : Ctx X N sc k G nm xa) (h1 : mEs nm N sc as xs = true) (e1 : evA G as rho mu = some (ds, mu')) (hl : ds.length ≤ cap) :
    PE X (.List xs p) (tF X.K rho mu ds mu') :=
  pe_mono (pe_lst (A.a hc h1 e1)) fun sg H Q ⟨B, th, sr, q⟩ => ⟨B, th, sr, fun vs B1 H1 th1 s1 f1 r1 => ⟨by rw [r1.length]; exact le_line hl, fun p n => GoF.lst s1 (GoF.at q f1) r1 n⟩⟩
/-- from the fresh form to the other -/
theorem Snd.ofF {e : E} (h0 : isCh e = false) (h1 : isIt e = false) (hl : ∀ {G : Gam} {rho : Env} {mu mu' : Store} {h : Hd}, ev G e rho mu = some (h, mu') → ∃ ds, h = .dat (.lst ds))
    (p : ∀ {N : List Str} {sc : Scope} {x : Expr}, mE nm N sc e x = true → ∀ env whole, isTrue x env whole = (do let v ← whole; standAt x.pos; holding [v] (truthy v)))
    (f : ∀ {X : Cx} {N : List Str} {sc : Scope} {k : Nat} {G : Gam} {x : Expr} {rho : Env} {mu mu' : Store} {ds : List Dat}, Ctx X N sc k G nm xa → mE nm N sc e x = true → ev G e rho mu = some (.dat (.lst ds), mu') → PE X x (tF X.K rho mu ds mu')) : Snd nm xa e :=
  Snd.ofP h0 h1 (fun hc hx hv => by obtain ⟨ds, rfl⟩ := hl hv; exact pe_keep (f hc hx hv)) p (fun hc _ hx hv => f hc hx hv)
theorem snd_lst {as : E} (A : Snd nm xa as) : Snd nm xa (.lst as) := by
  refine Snd.ofF rfl rfl (fun {G rho mu mu' h} hv => ?_) (fun hx env wh => ?_) (fun {X N sc k G x rho mu mu' ds} hc hx hv => ?_)
  · obtain ⟨ds, m1, e1, e2⟩ := bd_inv hv
    split at e2
    · cases e2; exact ⟨ds, rfl⟩
    · cases e2
  · obtain ⟨xs, p, rfl, h1⟩ := inv_lst hx
    rfl
  · obtain ⟨xs, p, rfl, h1⟩ := inv_lst hx
    obtain ⟨ds, m1, e1, e2⟩ := bd_inv hv
    split at e2
    · rename_i hl
      cases e2
      exact fr_lst A hc h1 e1 hl
    · cases e2
theorem inv_op {N : List Str} {sc : Scope} {o : AOp} {a b : E} {x : Expr} (h : mE nm N sc (.op o a b) x = true) : ∃ y p z pos, x = .BinOp y p z pos ∧ mOp o p = true ∧ mE nm N sc a y = true ∧ mE nm N sc b z = true := by
  cases x with
  | BinOp y p z pos =>
    obtain ⟨h1, h3⟩ := and2 (show (mOp o p && mE nm N sc a y && mE nm N sc b z) = true from h)
    obtain ⟨h1, h2⟩ := and2 h1
    exact ⟨y, p, z, pos, rfl, h1, h2, h3⟩
  | _ => exact Bool.noConfusion (show false = true from h)
theorem snd_op {o : AOp} {a b : E} (A : Snd nm xa a) (Bb : Snd nm xa b) : Snd nm xa (.op o a b) := by
  refine Snd.ofP rfl rfl (fun {X N sc k G x rho mu mu' h} hc hx hv => ?_) (fun hx env wh => ?_) (fun {X N sc k G x rho mu mu' ds} hc _ hx hv => ?_)
  · obtain ⟨y, p, z, pos, rfl, h1, h2, h3⟩ := inv_op hx
    obtain ⟨d1, m1, e1, e2⟩ := bd_inv hv
    obtain ⟨d2, m2, e3, e4⟩ := bd_inv e2
    obtain ⟨d, e5, e6⟩ := dn_inv e4
    cases e6
    obtain ⟨r, ho, hr⟩ := (op_rule (X := X) h1 e5).1
    exact pe_mono (pe_op ho (A.v hc h2 e1) (Bb.v hc h3 e3)) fun sg H Q ⟨B, th, sr, q⟩ => ⟨B, th, sr, fun v1 B1 H1 th1 s1 f1 r1 => ⟨B1, th1, sr.fut s1 f1, fun v2 B2 H2 th2 s2 f2 r2 =>
      hr B2 H2 th2 sg v1 v2 Q ((sr.fut s1 f1).fut s2 f2) (r1.fut f2) r2 (GoV.at q (f1.trans f2))⟩⟩
  · obtain ⟨y, p, z, pos, rfl, h1, h2, h3⟩ := inv_op hx
    rfl
  · obtain ⟨y, p, z, pos, rfl, h1, h2, h3⟩ := inv_op hx
    obtain ⟨d1, m1, e1, e2⟩ := bd_inv hv
    obtain ⟨d2, m2, e3, e4⟩ := bd_inv e2
    obtain ⟨d, e5, e6⟩ := dn_inv e4
    cases e6
    obtain ⟨r, ho, hr⟩ := (op_rule (X := X) h1 e5).2 _ rfl
    exact pe_mono (pe_op ho (A.v hc h2 e1) (Bb.v hc h3 e3)) fun sg H Q ⟨B, th, sr, q⟩ => ⟨B, th, sr, fun v1 B1 H1 th1 s1 f1 r1 => ⟨B1, th1, sr.fut s1 f1, fun v2 B2 H2 th2 s2 f2 r2 =>
      hr B2 H2 th2 sg v1 v2 Q ((sr.fut s1 f1).fut s2 f2) (r1.fut f2) r2 (GoF.at q (f1.trans f2))⟩⟩
theorem inv_rep {N : List Str} {sc : Scope} {a b : E} {x : Expr} (h : mE nm N sc (.rep a b) x = true) : ∃ ys q z pos, x = .BinOp (.List ys q) .Mult z pos ∧ mEs nm N sc a ys = true ∧ mE nm N sc b z = true := by
  cases x with
  | BinOp y p z pos =>
    cases y with
    | List ys q =>
      cases p with
      | Mult =>
        obtain ⟨h1, h2⟩ := and2 (show (mEs nm N sc a ys && mE nm N sc b z) = true from h)
        exact ⟨ys, q, z, pos, rfl, h1, h2⟩
      | _ => exact Bool.noConfusion (show false = true from h)
    | _ => exact Bool.noConfusion (show false = true from h)
  | _ => exact Bool.noConfusion (show false = true from h)
theorem isI_inv {d : Dat} {i : Int} (h : isI d = some i) : d = .int i := by
  cases d with
  | int j => cases h; rfl
  | _ => cases h
theorem isB_inv {d : Dat} {i : Bool} (h : isB d = some i) : d = .bl i := by
  cases d with
  | bl j => cases h; rfl
  | _ => cases h
theorem ev_rep {G : Gam} {a b : E} {rho : Env} {mu mu' : Store} {h : Hd} (hv : ev G (.rep a b) rho mu = some (h, mu')) : ∃ ds m1 k, evA G a rho mu = some (ds, m1) ∧ ev G b rho m1 = some (.dat (.int k), mu') ∧ ds.length ≤ cap ∧ 0 ≤ k ∧ k ≤ cap ∧ ds.length * k.toNat ≤ cap ∧ h = .dat (.lst (List.replicate k.toNat ds).flatten) := by
  obtain ⟨ds, m1, e1, e2⟩ := bd_inv hv
  obtain ⟨d, m2, e3, e4⟩ := bdD_inv e2
  split at e4
  · rename_i k hk
    have := isI_inv hk
    subst this
    split at e4
    · rename_i q
      cases e4
      exact ⟨ds, m1, k, e1, e3, q.1, q.2.1, q.2.2.1, q.2.2.2, rfl⟩
    · cases e4
  · cases e4
theorem snd_rep {a b : E} (A : Snd nm xa a) (Bb : Snd nm xa b) : Snd nm xa (.rep a b) := by
  refine Snd.ofF rfl rfl (fun {G rho mu mu' h} hv => ?_) (fun hx env wh => ?_) (fun {X N sc k G x rho mu mu' ds} hc hx hv => ?_)
  · obtain ⟨ds, m1, k, _, _, _, _, _, _, rfl⟩ := ev_rep hv
    exact ⟨_, rfl⟩
  · obtain ⟨ys, q, z, pos, rfl, h1, h2⟩ := inv_rep hx
    rfl
  · obtain ⟨ys, q, z, pos, rfl, h1, h2⟩ := inv_rep hx
    obtain ⟨es, m1, k, e1, e2, l1, l2, l3, l4, e3⟩ := ev_rep hv
    cases e3
    refine pe_mono (pe_op op_rep (fr_lst A hc h1 e1 l1) (Bb.v hc h2 e2)) fun sg H Q ⟨B, th, sr, q⟩ => ⟨B, th, sr, fun p vs B1 H1 th1 s1 f1 hn hb hp hl hr => ⟨B1, th1, sr.fut s1 f1, fun v2 B2 H2 th2 s2 f2 r2 => ?_⟩⟩
    cases r2
    have e : cap = 1000000 := rfl
    exact ⟨p, k, vs, rfl, rfl, f2.fr p _ hl hp, by omega, by omega, by rw [hr.length]; exact le_line l4, fun p' n => GoF.lst s2 (GoF.at q (f1.trans f2)) ((hr.mono f2.ex f2.pre).rep _) n⟩
theorem inv_neg {N : List Str} {sc : Scope} {a : E} {x : Expr} (h : mE nm N sc (.neg a) x = true) : ∃ y pos, x = .UnaryOp .USub y pos ∧ mE nm N sc a y = true := by
  cases x with
  | UnaryOp p y pos =>
    cases p with
    | USub => exact ⟨y, pos, rfl, h⟩
    | _ => exact Bool.noConfusion (show false = true from h)
  | _ => exact Bool.noConfusion (show false = true from h)
theorem snd_neg {a : E} (A : Snd nm xa a) : Snd nm xa (.neg a) := by
  refine Snd.ofP rfl rfl (fun {X N sc k G x rho mu mu' h} hc hx hv => ?_) (fun hx env wh => ?_) (fun _ h => no_fr h)
  · obtain ⟨y, pos, rfl, h1⟩ := inv_neg hx
    obtain ⟨d1, m1, e1, e2⟩ := bdD_inv hv
    obtain ⟨d, e5, e6⟩ := dn_inv e2
    cases e6
    cases q : isI d1 with
    | none => rw [q] at e5; cases e5
    | some i =>
      rw [q] at e5
      cases e5
      have := isI_inv q
      subst this
      exact pe_mono (pe_un un_neg (A.v hc h1 e1)) fun sg H Q ⟨B, th, sr, q⟩ => ⟨B, th, sr, fun v1 B1 H1 th1 s1 f1 r1 => by cases r1; exact ⟨i, rfl, q _ B1 H1 th1 s1 f1 (.int _)⟩⟩
  · obtain ⟨y, pos, rfl, h1⟩ := inv_neg hx
    rfl
theorem inv_cmp {N : List Str} {sc : Scope} {o : COp} {a b : E} {x : Expr} (h : mE nm N sc (.cmp o a b) x = true) : ∃ y p z pos, x = .Compare y [p] [z] pos ∧ mCmp o p = true ∧ mE nm N sc a y = true ∧ mE nm N sc b z = true := by
  cases x with
  | Compare y ps zs pos =>
    match ps, zs, h with
    | [p], [z], h =>
      obtain ⟨h1, h3⟩ := and2 (show (mCmp o p && mE nm N sc a y && mE nm N sc b z) = true from h)
      obtain ⟨h1, h2⟩ := and2 h1
      exact ⟨y, p, z, pos, rfl, h1, h2, h3⟩
    | [], _, h => exact Bool.noConfusion (show false = true from h)
    | [_], [], h => exact Bool.noConfusion (show false = true from h)
    | [_], _ :: _ :: _, h => exact Bool.noConfusion (show false = true from h)
    | _ :: _ :: _, _, h => exact Bool.noConfusion (show false = true from h)
  | _ => exact Bool.noConfusion (show false = true from h)
theorem ev_cmp {G : Gam} {o : COp} {a b : E} {rho : Env} {mu mu' : Store} {h : Hd} (hv : ev G (.cmp o a b) rho mu = some (h, mu')) : ∃ d1 m1 d2 c, ev G a rho mu = some (d1, m1) ∧ ev G b rho m1 = some (d2, mu') ∧ cmpD rho mu' o d1 d2 = some c ∧ h = .dat (.bl c) := by
  obtain ⟨d1, m1, e1, e2⟩ := bd_inv hv
  obtain ⟨d2, m2, e3, e4⟩ := bd_inv e2
  obtain ⟨d, e5, e6⟩ := dn_inv e4
  cases e6
  cases q : cmpD rho mu' o d1 d2 with
  | none => rw [q] at e5; cases e5
  | some c => rw [q] at e5; cases e5; exact ⟨d1, m1, d2, c, e1, e3, q, rfl⟩
theorem snd_cmp {o : COp} {a b : E} (A : Snd nm xa a) (Bb : Snd nm xa b) : Snd nm xa (.cmp o a b) := by
  refine Snd.ofV rfl rfl (fun {X N sc k G x rho mu mu' h} hc hx hv => ?_) (fun {X N sc k G x rho mu mu' c} hc hx hv => ?_) (fun _ h => no_fr h)
  · obtain ⟨y, p, z, pos, rfl, h1, h2, h3⟩ := inv_cmp hx
    obtain ⟨d1, m1, d2, c, e1, e2, e3, rfl⟩ := ev_cmp hv
    obtain ⟨r, ho, hr⟩ := cmp_rule hc h1 e3
    exact pe_mono (pe_cmpR ho (A.v hc h2 e1) (Bb.v hc h3 e2) ((mE_form h3).2.2.2 _)) fun sg H Q ⟨B, th, sr, q⟩ => ⟨B, th, sr, fun v1 B1 H1 th1 s1 f1 r1 => ⟨B1, th1, sr.fut s1 f1, fun v2 B2 H2 th2 s2 f2 r2 =>
      hr B2 H2 th2 sg v1 v2 Q ((sr.fut s1 f1).fut s2 f2) (r1.fut f2) r2 (q _ B2 H2 th2 s2 (f1.trans f2) (.bl c))⟩⟩
  · obtain ⟨y, p, z, pos, rfl, h1, h2, h3⟩ := inv_cmp hx
    obtain ⟨d1, m1, d2, c', e1, e2, e3, e4⟩ := ev_cmp hv
    cases e4
    obtain ⟨r, ho, hr⟩ := cmp_rule hc h1 e3
    exact pt_mono (pt_cmpR ho (A.v hc h2 e1) (Bb.v hc h3 e2) ((mE_form h3).2.2.2 _)) fun sg H Q ⟨B, th, sr, q⟩ => ⟨B, th, sr, fun v1 B1 H1 th1 s1 f1 r1 => ⟨B1, th1, sr.fut s1 f1, fun v2 B2 H2 th2 s2 f2 r2 =>
      hr B2 H2 th2 sg v1 v2 _ ((sr.fut s1 f1).fut s2 f2) (r1.fut f2) r2 ⟨c, rfl, q B2 H2 th2 s2 (f1.trans f2)⟩⟩⟩
end
end Lin

set_option maxHeartbeats 2000000
/-! Lin, part J: the cases, further. -/
namespace Lin
open PySem PySem.Spec PyProof.Rows L2
section
variable {nm : Nms} {xa : Nat → Addr}
theorem inv_chain {N : List Str} {sc : Scope} {o o' : COp} {a b c : E} {x : Expr} (h : mE nm N sc (.chain o o' a b c) x = true) : ∃ y p p' z w pos, x = .Compare y [p, p'] [z, w] pos ∧ mCmp o p = true ∧ mCmp o' p' = true ∧ mE nm N sc a y = true ∧ mE nm N sc b z = true ∧ mE nm N sc c w = true := by
  cases x with
  | Compare y ps zs pos =>
    match ps, zs, h with
    | [p, p'], [z, w], h =>
      obtain ⟨h1, h5⟩ := and2 (show (mCmp o p && mCmp o' p' && mE nm N sc a y && mE nm N sc b z && mE nm N sc c w) = true from h)
      obtain ⟨h1, h4⟩ := and2 h1
      obtain ⟨h1, h3⟩ := and2 h1
      obtain ⟨h1, h2⟩ := and2 h1
      exact ⟨y, p, p', z, w, pos, rfl, h1, h2, h3, h4, h5⟩
    | [], _, h => exact Bool.noConfusion (show false = true from h)
    | [_], _, h => exact Bool.noConfusion (show false = true from h)
    | [_, _], [], h => exact Bool.noConfusion (show false = true from h)
    | [_, _], [_], h => exact Bool.noConfusion (show false = true from h)
    | [_, _], _ :: _ :: _ :: _, h => exact Bool.noConfusion (show false = true from h)
    | _ :: _ :: _ :: _, _, h => exact Bool.noConfusion (show false = true from h)
  | _ => exact Bool.noConfusion (show false = true from h)
theorem ev_chain {G : Gam} {o o' : COp} {a b c : E} {rho : Env} {mu mu' : Store} {h : Hd} (hv : ev G (.chain o o' a b c) rho mu = some (h, mu')) : ∃ d1 m1 d2 m2, ev G a rho mu = some (d1, m1) ∧ ev G b rho m1 = some (d2, m2) ∧
    ((cmpD rho m2 o d1 d2 = some false ∧ h = .dat (.bl false) ∧ mu' = m2) ∨ ∃ d3 r, cmpD rho m2 o d1 d2 = some true ∧ ev G c rho m2 = some (d3, mu') ∧ cmpD rho mu' o' d2 d3 = some r ∧ h = .dat (.bl r)) := by
  obtain ⟨d1, m1, e1, e2⟩ := bd_inv hv
  obtain ⟨d2, m2, e3, e4⟩ := bd_inv e2
  refine ⟨d1, m1, d2, m2, e1, e3, ?_⟩
  split at e4
  · rename_i q
    obtain ⟨d3, m3, e5, e6⟩ := bd_inv e4
    obtain ⟨d, e7, e8⟩ := dn_inv e6
    cases e8
    cases z : cmpD rho mu' o' d2 d3 with
    | none => rw [z] at e7; cases e7
    | some r => rw [z] at e7; cases e7; exact .inr ⟨d3, r, q, e5, z, rfl⟩
  · rename_i q
    cases e4
    exact .inl ⟨q, rfl, rfl⟩
  · cases e4
theorem snd_chain {o o' : COp} {a b c : E} (A : Snd nm xa a) (Bb : Snd nm xa b) (C : Snd nm xa c) : Snd nm xa (.chain o o' a b c) := by
  refine Snd.ofV rfl rfl (fun {X N sc k G x rho mu mu' h} hc hx hv => ?_) (fun {X N sc k G x rho mu mu' v} hc hx hv => ?_) (fun _ h => no_fr h)
  · obtain ⟨y, p, p', z, w, pos, rfl, h1, h2, h3, h4, h5⟩ := inv_chain hx
    obtain ⟨d1, m1, d2, m2, e1, e2, ⟨q1, rfl, rfl⟩ | ⟨d3, r, q1, e3, q2, rfl⟩⟩ := ev_chain hv
    · obtain ⟨r1, ho, hr⟩ := cmp_rule hc h1 q1
      exact pe_mono (pe_chain ho (op_false (f := compareOp p')) (A.v hc h3 e1) (Bb.v hc h4 e2) pe_false ((mE_form h5).2.2.2 p')) fun sg H Q ⟨B, th, sr, q⟩ => ⟨B, th, sr, fun v1 B1 H1 th1 s1 f1 r1 => ⟨B1, th1, sr.fut s1 f1, fun v2 B2 H2 th2 s2 f2 r2 =>
        hr B2 H2 th2 sg v1 v2 _ ((sr.fut s1 f1).fut s2 f2) (r1.fut f2) r2 ⟨false, rfl, iteF (q _ B2 H2 th2 s2 (f1.trans f2) (.bl _))⟩⟩⟩
    · obtain ⟨r1, ho, hr⟩ := cmp_rule hc h1 q1
      obtain ⟨r2, ho2, hr2⟩ := cmp_rule hc h2 q2
      exact pe_mono (pe_chain ho ho2 (A.v hc h3 e1) (Bb.v hc h4 e2) (C.v hc h5 e3) ((mE_form h5).2.2.2 p')) fun sg H Q ⟨B, th, sr, q⟩ => ⟨B, th, sr, fun v1 B1 H1 th1 s1 f1 r1 => ⟨B1, th1, sr.fut s1 f1, fun v2 B2 H2 th2 s2 f2 r2 =>
        hr B2 H2 th2 sg v1 v2 _ ((sr.fut s1 f1).fut s2 f2) (r1.fut f2) r2 ⟨true, rfl, iteT ⟨B2, th2, (sr.fut s1 f1).fut s2 f2, fun v3 B3 H3 th3 s3 f3 r3 =>
          hr2 B3 H3 th3 sg v2 v3 Q (((sr.fut s1 f1).fut s2 f2).fut s3 f3) (r2.fut f3) r3 (q _ B3 H3 th3 s3 ((f1.trans f2).trans f3) (.bl _))⟩⟩⟩⟩
  · obtain ⟨y, p, p', z, w, pos, rfl, h1, h2, h3, h4, h5⟩ := inv_chain hx
    obtain ⟨d1, m1, d2, m2, e1, e2, ⟨q1, e, rfl⟩ | ⟨d3, r, q1, e3, q2, e⟩⟩ := ev_chain hv
    · cases e
      obtain ⟨r1, ho, hr⟩ := cmp_rule hc h1 q1
      exact pt_mono (pt_chain ho (op_false (f := compareOp p')) (A.v hc h3 e1) (Bb.v hc h4 e2) pe_false ((mE_form h5).2.2.2 p')) fun sg H Q ⟨B, th, sr, q⟩ => ⟨B, th, sr, fun v1 B1 H1 th1 s1 f1 r1 => ⟨B1, th1, sr.fut s1 f1, fun v2 B2 H2 th2 s2 f2 r2 =>
        hr B2 H2 th2 sg v1 v2 _ ((sr.fut s1 f1).fut s2 f2) (r1.fut f2) r2 ⟨false, rfl, iteF ⟨false, rfl, q B2 H2 th2 s2 (f1.trans f2)⟩⟩⟩⟩
    · cases e
      obtain ⟨r1, ho, hr⟩ := cmp_rule hc h1 q1
      obtain ⟨r2, ho2, hr2⟩ := cmp_rule hc h2 q2
      exact pt_mono (pt_chain ho ho2 (A.v hc h3 e1) (Bb.v hc h4 e2) (C.v hc h5 e3) ((mE_form h5).2.2.2 p')) fun sg H Q ⟨B, th, sr, q⟩ => ⟨B, th, sr, fun v1 B1 H1 th1 s1 f1 r1 => ⟨B1, th1, sr.fut s1 f1, fun v2 B2 H2 th2 s2 f2 r2 =>
        hr B2 H2 th2 sg v1 v2 _ ((sr.fut s1 f1).fut s2 f2) (r1.fut f2) r2 ⟨true, rfl, iteT ⟨B2, th2, (sr.fut s1 f1).fut s2 f2, fun v3 B3 H3 th3 s3 f3 r3 =>
          hr2 B3 H3 th3 sg v2 v3 _ (((sr.fut s1 f1).fut s2 f2).fut s3 f3) (r2.fut f3) r3 ⟨_, rfl, q B3 H3 th3 s3 ((f1.trans f2).trans f3)⟩⟩⟩⟩⟩

/-! ### and, or -/
theorem inv_and {N : List Str} {sc : Scope} {as : E} {x : Expr} (h : mE nm N sc (.and as) x = true) : ∃ xs pos, x = .BoolOp .And xs pos ∧ mEs nm N sc as xs = true := by
  cases x with
  | BoolOp o xs pos =>
    cases o with
    | And => exact ⟨xs, pos, rfl, h⟩
    | _ => exact Bool.noConfusion (show false = true from h)
  | _ => exact Bool.noConfusion (show false = true from h)
theorem inv_or {N : List Str} {sc : Scope} {as : E} {x : Expr} (h : mE nm N sc (.or as) x = true) : ∃ xs pos, x = .BoolOp .Or xs pos ∧ mEs nm N sc as xs = true := by
  cases x with
  | BoolOp o xs pos =>
    cases o with
    | Or => exact ⟨xs, pos, rfl, h⟩
    | _ => exact Bool.noConfusion (show false = true from h)
  | _ => exact Bool.noConfusion (show false = true from h)
theorem snd_and {as : E} (A : Snd nm xa as) : Snd nm xa (.and as) := by
  refine Snd.ofV rfl rfl (fun hc hx hv => ?_) (fun hc hx hv => ?_) (fun _ h => no_fr h)
  · obtain ⟨xs, pos, rfl, h1⟩ := inv_and hx
    exact A.an hc h1 hv
  · obtain ⟨xs, pos, rfl, h1⟩ := inv_and hx
    exact (A.anT hc h1 hv).pt
theorem snd_or {as : E} (A : Snd nm xa as) : Snd nm xa (.or as) := by
  refine Snd.ofV rfl rfl (fun hc hx hv => ?_) (fun hc hx hv => ?_) (fun _ h => no_fr h)
  · obtain ⟨xs, pos, rfl, h1⟩ := inv_or hx
    exact A.or hc h1 hv
  · obtain ⟨xs, pos, rfl, h1⟩ := inv_or hx
    exact (A.orT hc h1 hv).pt
theorem bl_inv {x : Dat} {mu mu' : Store} {h : Hd} (e : dn ((isB x).map .bl) mu = some (h, mu')) : ∃ b, x = .bl b ∧ h = .dat (.bl b) ∧ mu' = mu := by
  obtain ⟨d, e1, e2⟩ := dn_inv e
  cases q : isB x with
  | none => rw [q] at e1; cases e1
  | some b => rw [q] at e1; cases e1; cases e2; exact ⟨b, isB_inv q, rfl, rfl⟩
theorem ev_and {G : Gam} {a r : E} {rho : Env} {mu mu' : Store} {h : Hd} (hv : evAnd G (.acons a r) rho mu = some (h, mu')) :
    (∃ b, r = .anil ∧ ev G a rho mu = some (.dat (.bl b), mu') ∧ h = .dat (.bl b)) ∨ (r ≠ .anil ∧ ((ev G a rho mu = some (.dat (.bl false), mu') ∧ h = .dat (.bl false)) ∨ ∃ m1, ev G a rho mu = some (.dat (.bl true), m1) ∧ evAnd G r rho m1 = some (h, mu'))) := by
  by_cases hr : r = .anil
  · subst hr
    obtain ⟨x, m1, e1, e2⟩ := bdD_inv (show bdD (ev G a rho mu) (fun x mu1 => dn ((isB x).map .bl) mu1) = some (h, mu') from hv)
    obtain ⟨b, rfl, rfl, rfl⟩ := bl_inv e2
    exact .inl ⟨b, rfl, e1, rfl⟩
  · refine .inr ⟨hr, ?_⟩
    have hv' : bdD (ev G a rho mu) (fun x mu1 => match isB x with | some true => evAnd G r rho mu1 | some false => some (.dat (.bl false), mu1) | none => none) = some (h, mu') := by
      cases r <;> first | exact absurd rfl hr | exact hv
    obtain ⟨x, m1, e1, e2⟩ := bdD_inv hv'
    split at e2
    · rename_i q
      rw [isB_inv q] at e1
      exact .inr ⟨m1, e1, e2⟩
    · rename_i q
      rw [isB_inv q] at e1
      cases e2
      exact .inl ⟨e1, rfl⟩
    · cases e2
theorem ev_or {G : Gam} {a r : E} {rho : Env} {mu mu' : Store} {h : Hd} (hv : evOr G (.acons a r) rho mu = some (h, mu')) :
    (∃ b, r = .anil ∧ ev G a rho mu = some (.dat (.bl b), mu') ∧ h = .dat (.bl b)) ∨ (r ≠ .anil ∧ ((ev G a rho mu = some (.dat (.bl true), mu') ∧ h = .dat (.bl true)) ∨ ∃ m1, ev G a rho mu = some (.dat (.bl false), m1) ∧ evOr G r rho m1 = some (h, mu'))) := by
  by_cases hr : r = .anil
  · subst hr
    obtain ⟨x, m1, e1, e2⟩ := bdD_inv (show bdD (ev G a rho mu) (fun x mu1 => dn ((isB x).map .bl) mu1) = some (h, mu') from hv)
    obtain ⟨b, rfl, rfl, rfl⟩ := bl_inv e2
    exact .inl ⟨b, rfl, e1, rfl⟩
  · refine .inr ⟨hr, ?_⟩
    have hv' : bdD (ev G a rho mu) (fun x mu1 => match isB x with | some false => evOr G r rho mu1 | some true => some (.dat (.bl true), mu1) | none => none) = some (h, mu') := by
      cases r <;> first | exact absurd rfl hr | exact hv
    obtain ⟨x, m1, e1, e2⟩ := bdD_inv hv'
    split at e2
    · rename_i q
      rw [isB_inv q] at e1
      exact .inr ⟨m1, e1, e2⟩
    · rename_i q
      rw [isB_inv q] at e1
      cases e2
      exact .inl ⟨e1, rfl⟩
    · cases e2
theorem inv_not {N : List Str} {sc : Scope} {a : E} {x : Expr} (h : mE nm N sc (.not a) x = true) : ∃ y pos, x = .UnaryOp .Not y pos ∧ mE nm N sc a y = true := by
  cases x with
  | UnaryOp p y pos =>
    cases p with
    | Not => exact ⟨y, pos, rfl, h⟩
    | _ => exact Bool.noConfusion (show false = true from h)
  | _ => exact Bool.noConfusion (show false = true from h)
theorem ev_not {G : Gam} {a : E} {rho : Env} {mu mu' : Store} {h : Hd} (hv : ev G (.not a) rho mu = some (h, mu')) : ∃ b, ev G a rho mu = some (.dat (.bl b), mu') ∧ h = .dat (.bl (!b)) := by
  obtain ⟨x, m1, e1, e2⟩ := bdD_inv hv
  obtain ⟨d, e3, e4⟩ := dn_inv e2
  cases q : isB x with
  | none => rw [q] at e3; cases e3
  | some b => rw [q] at e3; cases e3; cases e4; rw [isB_inv q] at e1; exact ⟨b, e1, rfl⟩
theorem snd_not {a : E} (A : Snd nm xa a) : Snd nm xa (.not a) := by
  refine Snd.ofV rfl rfl (fun {X N sc k G x rho mu mu' h} hc hx hv => ?_) (fun {X N sc k G x rho mu mu' v} hc hx hv => ?_) (fun _ h => no_fr h)
  · obtain ⟨y, pos, rfl, h1⟩ := inv_not hx
    obtain ⟨b, e1, rfl⟩ := ev_not hv
    exact pe_mono (pe_not (A.v hc h1 e1)) fun sg H Q ⟨B, th, sr, q⟩ => ⟨B, th, sr, fun v1 B1 H1 th1 s1 f1 r1 => by cases r1; exact ⟨b, rfl, q _ B1 H1 th1 s1 f1 (.bl _)⟩⟩
  · obtain ⟨y, pos, rfl, h1⟩ := inv_not hx
    obtain ⟨b, e1, e⟩ := ev_not hv
    cases e
    exact pt_mono (pt_not (A.t hc h1 e1)) fun sg H Q ⟨B, th, sr, q⟩ => ⟨B, th, sr, fun B1 H1 th1 s1 f1 => q B1 H1 th1 s1 f1⟩
/-! ### a if c else b -/
theorem inv_ite {N : List Str} {sc : Scope} {c a b : E} {x : Expr} (h : mE nm N sc (.ite c a b) x = true) : ∃ z y w pos, x = .IfExp z y w pos ∧ mE nm N sc c z = true ∧ mE nm N sc a y = true ∧ mE nm N sc b w = true := by
  cases x with
  | IfExp z y w pos =>
    obtain ⟨h1, h3⟩ := and2 (show (mE nm N sc c z && mE nm N sc a y && mE nm N sc b w) = true from h)
    obtain ⟨h1, h2⟩ := and2 h1
    exact ⟨z, y, w, pos, rfl, h1, h2, h3⟩
  | _ => exact Bool.noConfusion (show false = true from h)
theorem ev_ite {G : Gam} {c a b : E} {rho : Env} {mu mu' : Store} {h : Hd} (hv : ev G (.ite c a b) rho mu = some (h, mu')) : ∃ m1 t, ev G c rho mu = some (.dat (.bl t), m1) ∧ ((t = true ∧ ev G a rho m1 = some (h, mu')) ∨ (t = false ∧ ev G b rho m1 = some (h, mu'))) := by
  obtain ⟨x, m1, e1, e2⟩ := bdD_inv hv
  split at e2
  · rename_i q
    rw [isB_inv q] at e1
    exact ⟨m1, true, e1, .inl ⟨rfl, e2⟩⟩
  · rename_i q
    rw [isB_inv q] at e1
    exact ⟨m1, false, e1, .inr ⟨rfl, e2⟩⟩
  · cases e2
/-- a if c else b as a test -/
theorem pt_ite {X : Cx} {c a b : Expr} {tc ta tb : TT} {pos : Pos} (hc : PT X c tc) (ha : PT X a ta) (hb : PT X b tb) : PT X (.IfExp c a b pos) (fun σ H Q => tc σ H fun r H1 => if r = true then ta σ H1 Q else tb σ H1 Q) := by
  refine ⟨fun pins s σ H Q I h => ?_⟩
  have e : ∀ wh, isTrue (.IfExp c a b pos) X.env wh = (do if ← isTrue c X.env (eval c X.env) then isTrue a X.env (eval a X.env) else isTrue b X.env (eval b X.env)) := fun _ => rfl
  rw [e]
  refine wpAny_bind (thn (hc.run pins s σ H _ I h) fun r s1 ⟨H1, I1, q1⟩ => ?_)
  cases r with
  | true => exact ha.run pins s1 σ H1 Q I1 q1
  | false => exact hb.run pins s1 σ H1 Q I1 q1
theorem pt_false {X : Cx} {x : Expr} : PT X x (fun _ _ _ => False) := ⟨fun _ _ _ _ _ _ h => h.elim⟩
theorem snd_ite {c a b : E} (C : Snd nm xa c) (A : Snd nm xa a) (Bb : Snd nm xa b) : Snd nm xa (.ite c a b) := by
  refine Snd.ofV rfl rfl (fun {X N sc k G x rho mu mu' h} hc hx hv => ?_) (fun {X N sc k G x rho mu mu' v} hc hx hv => ?_) (fun _ h => no_fr h)
  · obtain ⟨z, y, w, pos, rfl, h1, h2, h3⟩ := inv_ite hx
    obtain ⟨m1, t, e1, ⟨rfl, e2⟩ | ⟨rfl, e2⟩⟩ := ev_ite hv
    · exact pe_mono (pe_ifExp (C.t hc h1 e1) (A.v hc h2 e2) pe_false) fun sg H Q ⟨B, th, sr, q⟩ => ⟨B, th, sr, fun B1 H1 th1 s1 f1 => iteT ⟨B1, th1, sr.fut s1 f1, fun v B2 H2 th2 s2 f2 r2 => q v B2 H2 th2 s2 (f1.trans f2) r2⟩⟩
    · exact pe_mono (pe_ifExp (C.t hc h1 e1) pe_false (Bb.v hc h3 e2)) fun sg H Q ⟨B, th, sr, q⟩ => ⟨B, th, sr, fun B1 H1 th1 s1 f1 => iteF ⟨B1, th1, sr.fut s1 f1, fun v B2 H2 th2 s2 f2 r2 => q v B2 H2 th2 s2 (f1.trans f2) r2⟩⟩
  · obtain ⟨z, y, w, pos, rfl, h1, h2, h3⟩ := inv_ite hx
    obtain ⟨m1, t, e1, ⟨rfl, e2⟩ | ⟨rfl, e2⟩⟩ := ev_ite hv
    · exact pt_mono (pt_ite (C.t hc h1 e1) (A.t hc h2 e2) pt_false) fun sg H Q ⟨B, th, sr, q⟩ => ⟨B, th, sr, fun B1 H1 th1 s1 f1 => iteT ⟨B1, th1, sr.fut s1 f1, fun B2 H2 th2 s2 f2 => q B2 H2 th2 s2 (f1.trans f2)⟩⟩
    · exact pt_mono (pt_ite (C.t hc h1 e1) pt_false (Bb.t hc h3 e2)) fun sg H Q ⟨B, th, sr, q⟩ => ⟨B, th, sr, fun B1 H1 th1 s1 f1 => iteF ⟨B1, th1, sr.fut s1 f1, fun B2 H2 th2 s2 f2 => q B2 H2 th2 s2 (f1.trans f2)⟩⟩
/-! ### subscripts -/
theorem inv_ix {N : List Str} {sc : Scope} {a i : E} {x : Expr} (h : mE nm N sc (.ix a i) x = true) : ∃ y z pos, x = .Subscript y z pos ∧ mE nm N sc a y = true ∧ mE nm N sc i z = true := by
  cases x with
  | Subscript y z pos =>
    obtain ⟨h1, h2⟩ := and2 (show (mE nm N sc a y && mE nm N sc i z) = true from h)
    exact ⟨y, z, pos, rfl, h1, h2⟩
  | _ => exact Bool.noConfusion (show false = true from h)
theorem place_ix {n : Nat} {i : Int} {j : Nat} (h : place n i = some j) : ixN n i = some j := by
  unfold place at h
  unfold ixN
  split at h
  · rename_i h0
    split at h
    · rename_i h1
      cases h
      rw [if_pos h0, if_pos (by omega)]
    · cases h
  · rename_i h0
    split at h
    · rename_i h1
      cases h
      rw [if_neg h0, if_pos (by omega)]
      first | done | (congr 1; done) | (congr 1; omega)
    · cases h
theorem at_sound {K : PySem.W.Frag} {B : Hp} {th : List Addr} {ds : List Dat} {vs : List V} {i : Int} {d : Dat} (r : Reps K B th ds vs) (h : at? ds i = some d) : ∃ v, atI vs i = some v ∧ Rep K B th d v := by
  unfold at? at h
  split at h
  · rename_i j hj
    obtain ⟨v, h1, h2⟩ := r.get h
    refine ⟨v, ?_, h2⟩
    unfold atI
    rw [r.length, place_ix hj]
    exact h1
  · cases h
theorem ixD_inv {rho : Env} {mu : Store} {x : Hd} {k d : Dat} (h : ixD rho mu x k = some d) : (∃ ds i, seqA rho mu x = some ds ∧ k = .int i ∧ at? ds i = some d) ∨ ∃ t kvs, dicOf rho mu x = some (t, kvs) ∧ keyFor t k = true ∧ dfind kvs k = some d := by
  unfold ixD at h
  split at h
  · rename_i ds i q
    exact .inl ⟨ds, i, q, rfl, h⟩
  · split at h
    · rename_i t kvs q
      unfold dget at h
      split at h
      · rename_i hk
        exact .inr ⟨t, kvs, q, hk, h⟩
      · cases h
    · cases h
  · cases h
theorem snd_ix {a i : E} (A : Snd nm xa a) (Ii : Snd nm xa i) : Snd nm xa (.ix a i) := by
  refine Snd.ofP rfl rfl (fun {X N sc k G x rho mu mu' h} hc hx hv => ?_) (fun hx env wh => ?_) (fun _ h => no_fr h)
  · obtain ⟨y, z, pos, rfl, h1, h2⟩ := inv_ix hx
    obtain ⟨d1, m1, e1, e2⟩ := bd_inv hv
    obtain ⟨d2, m2, e3, e4⟩ := bdD_inv e2
    obtain ⟨d, e5, e6⟩ := dn_inv e4
    cases e6
    rcases ixD_inv e5 with ⟨ds, j, q1, rfl, q2⟩ | ⟨t, kvs, q1, q2, q3⟩
    · by_cases w : ∃ xs, d1 = .dat (.tup xs)
      · obtain ⟨xs, rfl⟩ := w
        cases q1
        refine pe_mono (pe_ix ix_tup (A.v hc h1 e1) (Ii.v hc h2 e3) (mE_form h2).2.2.1) fun sg H Q ⟨B, th, sr, q⟩ => ⟨B, th, sr, fun v1 B1 H1 th1 s1 f1 r1 => ⟨B1, th1, sr.fut s1 f1, fun v2 B2 H2 th2 s2 f2 r2 => ?_⟩⟩
        cases r2
        have r1' := r1.fut f2
        cases r1' with
        | tup g1 g2 =>
          obtain ⟨v, g3, g4⟩ := at_sound g2 q2
          exact ⟨_, _, j, v, rfl, rfl, .inl (.inl (s2.ex _ _ g1)), g3, q v B2 H2 th2 s2 (f1.trans f2) g4⟩
      · have q1' : seqL rho mu' d1 = some ds := by
          rw [← q1]
          cases d1 with
          | own i => rfl
          | dat d =>
            cases d with
            | tup xs => exact absurd ⟨xs, rfl⟩ w
            | _ => rfl
        refine pe_mono (pe_ix ix_list (A.v hc h1 e1) (Ii.v hc h2 e3) (mE_form h2).2.2.1) fun sg H Q ⟨B, th, sr, q⟩ => ⟨B, th, sr, fun v1 B1 H1 th1 s1 f1 r1 => ⟨B1, th1, sr.fut s1 f1, fun v2 B2 H2 th2 s2 f2 r2 => ?_⟩⟩
        cases r2
        obtain ⟨a, vs, rfl, g1, g2⟩ := seqL_sound ((sr.fut s1 f1).fut s2 f2) (r1.fut f2) q1'
        obtain ⟨v, g3, g4⟩ := at_sound g2 q2
        exact ⟨a, vs, j, v, rfl, rfl, g1, g3, q v B2 H2 th2 s2 (f1.trans f2) g4⟩
    · refine pe_mono (pe_dget (hu_of hc.room) (A.v hc h1 e1) (Ii.v hc h2 e3) (mE_form h2).2.2.1) fun sg H Q ⟨B, th, sr, q⟩ => ⟨B, th, sr, fun v1 B1 H1 th1 s1 f1 r1 => ⟨B1, th1, sr.fut s1 f1, fun v2 B2 H2 th2 s2 f2 r2 => ?_⟩⟩
      obtain ⟨a, o, rfl, g, w | ⟨d', z', w1, w2, w3⟩⟩ := dict_get ((sr.fut s1 f1).fut s2 f2) (r1.fut f2) r2 q1 q2
      · rw [q3] at w
        cases w.1
      · rw [q3] at w1
        cases w1
        rw [w2] at g
        exact ⟨a, z', rfl, g, q z' B2 H2 th2 s2 (f1.trans f2) w3⟩
  · obtain ⟨y, z, pos, rfl, _⟩ := inv_ix hx
    rfl
theorem inv_slc {N : List Str} {sc : Scope} {a lo hi : E} {x : Expr} (h : mE nm N sc (.slc a lo hi) x = true) : ∃ y l u p pos, x = .Subscript y (.Slice l u none p) pos ∧ mE nm N sc a y = true ∧ mO nm N sc lo l = true ∧ mO nm N sc hi u = true := by
  cases x with
  | Subscript y z pos =>
    cases z with
    | Slice l u st p =>
      cases st with
      | none =>
        obtain ⟨h1, h3⟩ := and2 (show (mE nm N sc a y && mO nm N sc lo l && mO nm N sc hi u) = true from h)
        obtain ⟨h1, h2⟩ := and2 h1
        exact ⟨y, l, u, p, pos, rfl, h1, h2, h3⟩
      | some _ => exact Bool.noConfusion (show false = true from h)
    | _ => exact Bool.noConfusion (show false = true from h)
  | _ => exact Bool.noConfusion (show false = true from h)
theorem snd_slc {a lo hi : E} (A : Snd nm xa a) (Lo : Snd nm xa lo) (Hi : Snd nm xa hi) : Snd nm xa (.slc a lo hi) := by
  refine Snd.ofP rfl rfl (fun {X N sc k G x rho mu mu' h} hc hx hv => ?_) (fun hx env wh => ?_) (fun {X N sc k G x rho mu mu' ds} hc _ hx hv => ?_)
  · obtain ⟨y, l, u, p, pos, rfl, h1, h2, h3⟩ := inv_slc hx
    obtain ⟨d1, m1, e1, e2⟩ := bd_inv hv
    obtain ⟨d2, m2, e3, e4⟩ := bd_inv e2
    obtain ⟨d3, m3, e5, e6⟩ := bd_inv e4
    obtain ⟨d, e7, e8⟩ := dn_inv e6
    cases e8
    obtain ⟨r, ho, hr⟩ := (slc_rule (X := X) e7).1
    exact pe_mono (pe_slice ho (A.v hc h1 e1) (Lo.o hc h2 e3) (Hi.o hc h3 e5)) fun sg H Q ⟨B, th, sr, q⟩ => ⟨B, th, sr, fun v1 B1 H1 th1 s1 f1 r1 => ⟨B1, th1, sr.fut s1 f1, fun B2 H2 th2 s2 f2 => ⟨B2, th2, (sr.fut s1 f1).fut s2 f2, fun B3 H3 th3 s3 f3 =>
      hr B3 H3 th3 sg v1 Q (((sr.fut s1 f1).fut s2 f2).fut s3 f3) ((r1.fut f2).fut f3) (GoV.at q ((f1.trans f2).trans f3))⟩⟩⟩
  · obtain ⟨y, l, u, p, pos, rfl, _⟩ := inv_slc hx
    rfl
  · obtain ⟨y, l, u, p, pos, rfl, h1, h2, h3⟩ := inv_slc hx
    obtain ⟨d1, m1, e1, e2⟩ := bd_inv hv
    obtain ⟨d2, m2, e3, e4⟩ := bd_inv e2
    obtain ⟨d3, m3, e5, e6⟩ := bd_inv e4
    obtain ⟨d, e7, e8⟩ := dn_inv e6
    cases e8
    obtain ⟨r, ho, hr⟩ := (slc_rule (X := X) e7).2 _ rfl
    exact pe_mono (pe_slice ho (A.v hc h1 e1) (Lo.o hc h2 e3) (Hi.o hc h3 e5)) fun sg H Q ⟨B, th, sr, q⟩ => ⟨B, th, sr, fun v1 B1 H1 th1 s1 f1 r1 => ⟨B1, th1, sr.fut s1 f1, fun B2 H2 th2 s2 f2 => ⟨B2, th2, (sr.fut s1 f1).fut s2 f2, fun B3 H3 th3 s3 f3 =>
      hr B3 H3 th3 sg v1 Q (((sr.fut s1 f1).fut s2 f2).fut s3 f3) ((r1.fut f2).fut f3) (GoF.at q ((f1.trans f2).trans f3))⟩⟩⟩
/-! ### calls -/
theorem inv_call {N : List Str} {sc : Scope} {f : Nat} {as : E} {x : Expr} (h : mE nm N sc (.call f as) x = true) : ∃ p xs pos, x = .Call (.Name (nm.fn f) p) xs [] pos ∧ glB sc (nm.fn f) = true ∧ plainName (nm.fn f) = true ∧ mEs nm N sc as xs = true := by
  cases x with
  | Call fn xs ks pos =>
    cases fn with
    | Name y p =>
      cases ks with
      | nil =>
        obtain ⟨h1, h4⟩ := and2 (show (decide (y = nm.fn f) && glB sc y && plainName y && mEs nm N sc as xs) = true from h)
        obtain ⟨h1, h3⟩ := and2 h1
        obtain ⟨h1, h2⟩ := and2 h1
        have e := of_decide_eq_true h1
        subst e
        exact ⟨p, xs, pos, rfl, h2, h3, h4⟩
      | cons _ _ => exact Bool.noConfusion (show false = true from h)
    | _ => exact Bool.noConfusion (show false = true from h)
  | _ => exact Bool.noConfusion (show false = true from h)
theorem callD_inv {G : Gam} {f : Nat} {ds : List Dat} {mu mu' : Store} {h : Hd} (e : callD G f ds mu = some (h, mu')) : ∃ F d, ds.length = G.ar f ∧ G.fn f = some F ∧ F ds mu = some (.ok d mu') ∧ h = .dat d := by
  unfold callD at e
  split at e
  · rename_i hl
    split at e
    · rename_i F hF
      split at e
      · rename_i d m hr
        cases e
        exact ⟨F, d, hl, hF, hr, rfl⟩
      · cases e
    · cases e
  · cases e
theorem snd_call {f : Nat} {as : E} (A : Snd nm xa as) : Snd nm xa (.call f as) := by
  refine Snd.ofP rfl rfl (fun {X N sc k G x rho mu mu' h} hc hx hv => ?_) (fun hx env wh => ?_) (fun _ h => no_fr h)
  · obtain ⟨p, xs, pos, rfl, h1, h2, h3⟩ := inv_call hx
    obtain ⟨ds, m1, e1, e2⟩ := bd_inv hv
    obtain ⟨F, d, hl, hF, hr, rfl⟩ := callD_inv e2
    obtain ⟨a, fd, ps, g1, g2, g3, g4, g5⟩ := hc.g.fn f F hF
    have PAx := A.a hc h3 e1
    have fin : ∀ sg H Q, tV X.K rho mu (.dat d) mu' sg H Q → (tCall (spOf X.K xa (G.ar f) F) [] E0 (tAr X.K rho mu ds m1)) sg H Q := fun sg H Q ⟨B, th, sr, q⟩ => ⟨B, th, sr, fun vs B1 H1 th1 s1 f1 r1 => by
      show spOf X.K xa (G.ar f) F (vs ++ []) H1 Q E0
      rw [List.append_nil]
      exact ⟨by rw [r1.length]; exact hl, B1, th1, m1, ds, _, s1, r1, hr, fun v B2 H2 th2 s2 f2 r2 => q v B2 H2 th2 s2 (f1.trans f2) r2⟩⟩
    cases xs with
    | nil =>
      have ha := mEs_nil h3
      subst ha
      cases e1
      exact pe_mono (pe_call0 (pos := pos) (p := p) g5 hc.room (gl_of hc h1) g1 g2 g3 .nil passL (plain_of h2).1) fun sg H Q ⟨B, th, sr, q⟩ => ⟨hl, B, th, _, [], _, sr.toSRc, .nil, hr, q⟩
    | cons y ys =>
      obtain ⟨a', r', rfl, h4, h5⟩ := mEs_cons h3
      exact pe_mono (pe_call g5 hc.room (gl_of hc h1) g1 g2 g3 .nil passL PAx (plain_of h2).1 ((mE_form h4).1 _ _) (mEs_plain h5)) fin
  · obtain ⟨p, xs, pos, rfl, _⟩ := inv_call hx
    rfl
theorem inv_blt {N : List Str} {sc : Scope} {b : Bt} {as : E} {x : Expr} (h : mE nm N sc (.blt b as) x = true) : ∃ p xs pos, x = .Call (.Name (bltName b) p) xs [] pos ∧ glB sc (bltName b) = true ∧ mEs nm N sc as xs = true := by
  cases x with
  | Call fn xs ks pos =>
    cases fn with
    | Name y p =>
      cases ks with
      | nil =>
        obtain ⟨h1, h4⟩ := and2 (show (decide (y = bltName b) && glB sc y && mEs nm N sc as xs) = true from h)
        obtain ⟨h1, h2⟩ := and2 h1
        have e := of_decide_eq_true h1
        subst e
        exact ⟨p, xs, pos, rfl, h2, h4⟩
      | cons _ _ => exact Bool.noConfusion (show false = true from h)
    | _ => exact Bool.noConfusion (show false = true from h)
  | _ => exact Bool.noConfusion (show false = true from h)
theorem blt_all (b : Bt) : bltName b ∈ bltAll := by cases b <;> decide
theorem blt_nm (b : Bt) : bltName b ≠ ("__name__" : Str) ∧ (bltName b == ("__debug__" : Str)) = false := by cases b <;> exact ⟨by decide, by decide⟩
theorem bltD_ne {rho : Env} {mu : Store} {b : Bt} {d : Dat} (h : bltD rho mu b [] = some d) : False := by
  cases b <;> cases h
theorem snd_blt {b : Bt} {as : E} (A : Snd nm xa as) : Snd nm xa (.blt b as) := by
  have run : ∀ {X : Cx} {N : List Str} {sc : Scope} {k : Nat} {G : Gam} {xs : List Expr} {p pos : Pos} {rho : Env} {mu m1 : Store} {hs : List Hd} {r : List V → Hp → VK → Prop}, Ctx X N sc k G nm xa → glB sc (bltName b) = true → mEs nm N sc as xs = true → evHs G as rho mu = some (hs, m1) → hs ≠ [] →
      ((∃ id, bootBuiltins (bltName b) = some (.builtin id) ∧ CallR X (.builtin id) r) ∨ ∃ T, bootBuiltins (bltName b) = some (.type T) ∧ CallR X (.type T) r) → PE X (.Call (.Name (bltName b) p) xs [] pos) (tCB r (tHs X.K rho mu hs m1)) := fun {X N sc k G xs p pos rho mu m1 hs r} hc h1 h2 e1 hne hcall => by
    cases xs with
    | nil =>
      have ha := mEs_nil h2
      subst ha
      cases e1
      exact absurd rfl hne
    | cons y ys =>
      have PAx := A.hs hc h2 e1
      obtain ⟨a', r', rfl, h4, h5⟩ := mEs_cons h2
      have hm := hc.g.bt _ (blt_all b)
      obtain ⟨n1, n2⟩ := blt_nm b
      rcases hcall with ⟨id, b1, b2⟩ | ⟨T, b1, b2⟩
      · exact pe_callB b2 (gl_of hc h1) hm b1 PAx n1 n2 ((mE_form h4).1 _ _) (mEs_plain h5)
      · exact pe_callTy b2 (gl_of hc h1) hm b1 PAx n1 n2 ((mE_form h4).1 _ _) (mEs_plain h5)
  refine Snd.ofP rfl rfl (fun {X N sc k G x rho mu mu' h} hc hx hv => ?_) (fun hx env wh => ?_) (fun {X N sc k G x rho mu mu' ds} hc _ hx hv => ?_)
  · obtain ⟨p, xs, pos, rfl, h1, h2⟩ := inv_blt hx
    obtain ⟨hs, m1, e1, e2⟩ := bd_inv hv
    obtain ⟨d, e3, e4⟩ := dn_inv e2
    cases e4
    obtain ⟨r, ho, hr⟩ := (blt_rule hc e3).1
    exact pe_mono (run hc h1 h2 e1 (fun z => by subst z; exact bltD_ne e3) ho) fun sg H Q ⟨B, th, sr, q⟩ => ⟨B, th, sr, fun vs B1 H1 th1 s1 f1 r1 => hr B1 H1 th1 sg vs Q (sr.fut s1 f1) r1 (GoV.at q f1)⟩
  · obtain ⟨p, xs, pos, rfl, _⟩ := inv_blt hx
    rfl
  · obtain ⟨p, xs, pos, rfl, h1, h2⟩ := inv_blt hx
    obtain ⟨hs, m1, e1, e2⟩ := bd_inv hv
    obtain ⟨d, e3, e4⟩ := dn_inv e2
    cases e4
    obtain ⟨r, ho, hr⟩ := (blt_rule hc e3).2 _ rfl
    exact pe_mono (run hc h1 h2 e1 (fun z => by subst z; exact bltD_ne e3) ho) fun sg H Q ⟨B, th, sr, q⟩ => ⟨B, th, sr, fun vs B1 H1 th1 s1 f1 r1 => hr B1 H1 th1 sg vs Q (sr.fut s1 f1) r1 (GoF.at q f1)⟩
end
end Lin

set_option maxHeartbeats 2000000
/-! Lin, part K: targets, what is walked, comprehensions. -/
namespace Lin
open PySem PySem.Spec PyProof.Rows L2

/-! ### slots -/
theorem wipe_get (sg : L2.St) (i : Nat) : ∀ vs : List Nat, (wipe sg vs)[i]? = if i ∈ vs then (if i < sg.length then some none else none) else sg[i]?
  | [] => by simp [wipe]
  | v :: vs => by
    have ih := wipe_get sg i vs
    unfold wipe
    by_cases e : v = i
    · subst e
      rw [if_pos List.mem_cons_self]
      by_cases hl : v < sg.length
      · rw [if_pos hl, List.getElem?_set_self (by rw [wipe_length]; exact hl)]
      · rw [if_neg hl, List.getElem?_eq_none (by rw [List.length_set, wipe_length]; omega)]
    · rw [List.getElem?_set_ne e, ih]
      have : (i ∈ v :: vs) ↔ i ∈ vs := by
        rw [List.mem_cons]
        exact ⟨fun h => h.resolve_left fun z => e z.symm, .inr⟩
      simp only [this]
theorem wipe_set (sg : L2.St) {j : Nat} {x : Option V} {vs : List Nat} (h : j ∈ vs) : wipe (sg.set j x) vs = wipe sg vs := by
  apply List.ext_getElem?
  intro i
  rw [wipe_get, wipe_get, List.length_set]
  by_cases hi : i ∈ vs
  · rw [if_pos hi, if_pos hi]
  · rw [if_neg hi, if_neg hi, List.getElem?_set_ne (fun e : j = i => hi (e ▸ h))]
theorem wipe_wipe (sg : L2.St) (vs : List Nat) : wipe (wipe sg vs) vs = wipe sg vs := by
  apply List.ext_getElem?
  intro i
  rw [wipe_get, wipe_length, wipe_get]
  by_cases hi : i ∈ vs <;> simp [hi]
theorem wipeE_length (rho : Env) : ∀ vs : List Nat, (wipeE rho vs).length = rho.length
  | [] => rfl
  | v :: vs => by unfold wipeE; rw [List.length_set, wipeE_length rho vs]
theorem wipeE_some {rho : Env} {i : Nat} {x : Slot} : ∀ {vs : List Nat}, (wipeE rho vs)[i]? = some (some x) → rho[i]? = some (some x) ∧ i ∉ vs
  | [], h => ⟨h, by simp⟩
  | v :: vs, h => by
    unfold wipeE at h
    by_cases e : v = i
    · subst e
      by_cases hl : v < (wipeE rho vs).length
      · rw [List.getElem?_set_self hl] at h; cases h
      · rw [List.getElem?_eq_none (by rw [List.length_set]; omega)] at h; cases h
    · rw [List.getElem?_set_ne e] at h
      obtain ⟨h1, h2⟩ := wipeE_some h
      exact ⟨h1, fun z => (List.mem_cons.mp z).elim (fun q => e q.symm) h2⟩
section
variable {K : PySem.W.Frag} {B B1 H H1 : Hp} {th th1 : List Addr} {mu : Store} {rho : Env} {sg : L2.St}
theorem SR.wipe (s : SR K B H th mu rho sg) (vs : List Nat) : SR K B H th mu (wipeE rho vs) (wipe sg vs) where
  toSRc := s.toSRc
  sl := by rw [wipeE_length, wipe_length]; exact s.sl
  dat := fun i d h => by
    obtain ⟨h1, h2⟩ := wipeE_some h
    rw [wipe_get, if_neg h2]
    exact s.dat i d h1
  own := fun i c h => by
    obtain ⟨h1, h2⟩ := wipeE_some h
    rw [wipe_get, if_neg h2]
    exact s.own i c h1
  apart := fun i j c c' a h1 h2 h3 h4 => by
    obtain ⟨g1, g2⟩ := wipeE_some h1
    obtain ⟨g3, g4⟩ := wipeE_some h2
    rw [wipe_get, if_neg g2] at h3
    rw [wipe_get, if_neg g4] at h4
    exact s.apart i j c c' a g1 g3 h3 h4
theorem SR.setD {i : Nat} {d : Dat} {v : V} (s : SR K B H th mu rho sg) (r : Rep K B th d v) : SR K B H th mu (rho.set i (some (.dat d))) (sg.set i (some v)) where
  toSRc := s.toSRc
  sl := by rw [List.length_set, List.length_set]; exact s.sl
  dat := fun j d' h => by
    by_cases e : i = j
    · subst e
      have hl : i < rho.length := by
        have := (List.getElem?_eq_some_iff.mp h).1
        rwa [List.length_set] at this
      rw [List.getElem?_set_self hl] at h
      cases h
      exact ⟨v, List.getElem?_set_self (by rw [← s.sl]; exact hl), r⟩
    · rw [List.getElem?_set_ne e] at h ⊢
      exact s.dat j d' h
  own := fun j c h => by
    by_cases e : i = j
    · subst e
      have hl : i < rho.length := by
        have := (List.getElem?_eq_some_iff.mp h).1
        rwa [List.length_set] at this
      rw [List.getElem?_set_self hl] at h
      cases h
    · rw [List.getElem?_set_ne e] at h ⊢
      exact s.own j c h
  apart := fun j k c c' a h1 h2 h3 h4 => by
    have ne : ∀ {j : Nat} {c : Cell}, (rho.set i (some (Slot.dat d)))[j]? = some (some (.own c)) → i ≠ j ∧ rho[j]? = some (some (.own c)) := fun {j c} h => by
      by_cases e : i = j
      · subst e
        have hl : i < rho.length := by
          have := (List.getElem?_eq_some_iff.mp h).1
          rwa [List.length_set] at this
        rw [List.getElem?_set_self hl] at h
        cases h
      · rw [List.getElem?_set_ne e] at h
        exact ⟨e, h⟩
    obtain ⟨n1, g1⟩ := ne h1
    obtain ⟨n2, g2⟩ := ne h2
    rw [List.getElem?_set_ne n1] at h3
    rw [List.getElem?_set_ne n2] at h4
    exact s.apart j k c c' a g1 g2 h3 h4
/-- something that is nobody's is changed -/
theorem SRc.mut {p : Addr} {o : HO} (s : SRc K B H th mu) (hb : B p = none) (hp : p ∉ th) : SRc K B (upd H p o) th mu where
  ex := s.ex.updR hb
  len := s.len
  cell := fun n c hn => by
    obtain ⟨a, u, h1, h2, h3, h4⟩ := s.cell n c hn
    have ne : a ≠ p := fun e => hp (e ▸ List.mem_of_getElem? h1)
    exact ⟨a, u, h1, h2, by rw [upd_ne ne]; exact h3, h4⟩
  nd := s.nd
theorem Fut.mut {p : Addr} {o : HO} (f : Fut B H th B1 H1 th1) (n : H p = none) : Fut B H th B1 (upd H1 p o) th1 where
  ex := f.ex
  pre := f.pre
  fr := fun a u h1 h2 => by rw [upd_ne (ne_of_none h1 n)]; exact f.fr a u h1 h2
  nw := f.nw
  bn := f.bn
  dom := fun a h => by
    by_cases e : a = p
    · subst e; exact n
    · rw [upd_ne e] at h; exact f.dom a h
  tp := fun a vs h => by
    by_cases e : a = p
    · subst e; exact .inl n
    · rw [upd_ne e] at h; exact f.tp a vs h
end

/-! ### targets -/
def T.len : T → Nat
  | .cons _ r => r.len + 1
  | _ => 0
mutual
def gT (K : PySem.W.Frag) : T → TG
  | .nm i => gName i
  | .tup a => gTup K a.len (gTs K a)
  | _ => fun _ _ _ _ => False
def gTs (K : PySem.W.Frag) : T → TGs
  | .nil => gNil
  | .cons a r => gCons (gT K a) (gTs K r)
  | _ => fun _ _ _ _ => False
end
section
variable {X : Cx} {N : List Str} {sc : Scope} {ok : Str → Bool}
theorem mT_each {t : T} {x : Expr} (h : mT N sc ok t x = true) : ∀ es env, assignEach (x :: es) env = (false, assign x env) :: assignEach es env := by
  cases x with
  | Name y p => exact fun _ _ => rfl
  | Tuple xs j p => exact fun _ _ => rfl
  | _ => cases t <;> exact Bool.noConfusion (show false = true from h)
theorem mTs_each : ∀ {t : T} {xs : List Expr} {env : PySem.Env}, mTs N sc ok t xs = true → (assignEach xs env).length = t.len ∧ (assignEach xs env).findIdx? (·.1) = none
  | .nil, [], _, _ => ⟨rfl, rfl⟩
  | .cons a r, x :: xs, env, h => by
    obtain ⟨h1, h2⟩ := and2 (show (mT N sc ok a x && mTs N sc ok r xs) = true from h)
    obtain ⟨i1, i2⟩ := mTs_each (env := env) h2
    rw [mT_each h1]
    refine ⟨by rw [List.length_cons, i1]; rfl, ?_⟩
    rw [List.findIdx?_cons, i2]
    rfl
  | .nil, _ :: _, _, h => Bool.noConfusion (show false = true from h)
  | .cons _ _, [], _, h => Bool.noConfusion (show false = true from h)
  | .nm _, [], _, h => Bool.noConfusion (show false = true from h)
  | .nm _, _ :: _, _, h => Bool.noConfusion (show false = true from h)
  | .tup _, [], _, h => Bool.noConfusion (show false = true from h)
  | .tup _, _ :: _, _, h => Bool.noConfusion (show false = true from h)
mutual
theorem pg_of (hN : X.N = N) (nd : N.Nodup) (hsc : X.env.scope = sc) (hc : X.calm = true) (hok : ∀ x, ok x = true → X.fn x = true ∨ X.env.scope.names.lookup x = some .local) : ∀ {t : T} {x : Expr}, mT N sc ok t x = true → PG X x (gT X.K t)
  | .nm i, x, h => by
    cases x with
    | Name y p =>
      obtain ⟨h1, h3⟩ := and2 (show (decide (N[i]? = some y) && locB sc y && ok y) = true from h)
      obtain ⟨h1, h2⟩ := and2 h1
      exact pg_name (by rw [hN]; exact nd) (by rw [hN]; exact of_decide_eq_true h1) (by rw [hsc]; exact locB_of h2) (hok _ h3)
    | _ => exact Bool.noConfusion (show false = true from h)
  | .tup a, x, h => by
    cases x with
    | Tuple xs j p =>
      have h' : mTs N sc ok a xs = true := h
      obtain ⟨e1, e2⟩ := mTs_each (env := X.env) h'
      exact pg_tup hc (pgs_of hN nd hsc hc hok h') e1 e2
    | _ => exact Bool.noConfusion (show false = true from h)
  | .nil, x, h => by cases x <;> exact Bool.noConfusion (show false = true from h)
  | .cons _ _, x, h => by cases x <;> exact Bool.noConfusion (show false = true from h)
theorem pgs_of (hN : X.N = N) (nd : N.Nodup) (hsc : X.env.scope = sc) (hc : X.calm = true) (hok : ∀ x, ok x = true → X.fn x = true ∨ X.env.scope.names.lookup x = some .local) : ∀ {t : T} {xs : List Expr}, mTs N sc ok t xs = true → PGs X xs (gTs X.K t)
  | .nil, xs, h => by
    cases xs with
    | nil => exact pgs_nil
    | cons _ _ => exact Bool.noConfusion (show false = true from h)
  | .cons a r, xs, h => by
    cases xs with
    | nil => exact Bool.noConfusion (show false = true from h)
    | cons x xs =>
      obtain ⟨h1, h2⟩ := and2 (show (mT N sc ok a x && mTs N sc ok r xs) = true from h)
      exact pgs_cons (pg_of hN nd hsc hc hok h1) (pgs_of hN nd hsc hc hok h2) (by rw [mT_each h1]; rfl)
  | .nm _, xs, h => by cases xs <;> exact Bool.noConfusion (show false = true from h)
  | .tup _, xs, h => by cases xs <;> exact Bool.noConfusion (show false = true from h)
end
end
section
variable {K : PySem.W.Frag} {B H : Hp} {th : List Addr} {mu : Store}
theorem bindTs_len : ∀ {t : T} {ds : List Dat} {rho rho' : Env}, bindTs t ds rho = some rho' → ds.length = t.len
  | .nil, [], _, _, _ => rfl
  | .nil, _ :: _, _, _, h => by cases h
  | .cons a r, [], _, _, h => by cases h
  | .cons a r, d :: ds, rho, rho', h => by
    have h' : (match bindT a d rho with | some rho1 => bindTs r ds rho1 | none => none) = some rho' := h
    split at h'
    · rw [List.length_cons, bindTs_len h']; rfl
    · cases h'
  | .nm _, ds, _, _, h => by cases ds <;> cases h
  | .tup _, ds, _, _, h => by cases ds <;> cases h
mutual
theorem bind_sound : ∀ {t : T} {d : Dat} {rho rho' : Env} {sg : L2.St} {v : V}, bindT t d rho = some rho' → SR K B H th mu rho sg → Rep K B th d v →
    ∃ sg', SR K B H th mu rho' sg' ∧ (∀ Q : L2.St → Hp → Prop, Q sg' H → gT K t v sg H Q) ∧ ∀ vs : List Nat, (∀ j ∈ t.slots, j ∈ vs) → wipe sg' vs = wipe sg vs
  | .nm i, d, rho, rho', sg, v, h, s, r => by
    cases h
    exact ⟨sg.set i (some v), s.setD r, fun Q q => q, fun vs hv => wipe_set sg (hv i (by show i ∈ [i]; exact List.mem_cons_self))⟩
  | .tup a, d, rho, rho', sg, v, h, s, r => by
    cases d with
    | tup ds =>
      have h' : bindTs a ds rho = some rho' := h
      cases r with
      | tup r1 r2 =>
        obtain ⟨sg', s', q', w⟩ := binds_sound h' s r2
        exact ⟨sg', s', fun Q q => ⟨_, _, rfl, .inl (.inl (s.ex _ _ r1)), by rw [r2.length, bindTs_len h'], q' Q q⟩, fun vs hv => w vs hv⟩
    | _ => cases h
  | .nil, d, rho, rho', sg, v, h, s, r => by cases d <;> cases h
  | .cons _ _, d, rho, rho', sg, v, h, s, r => by cases d <;> cases h
theorem binds_sound : ∀ {t : T} {ds : List Dat} {rho rho' : Env} {sg : L2.St} {vs : List V}, bindTs t ds rho = some rho' → SR K B H th mu rho sg → Reps K B th ds vs →
    ∃ sg', SR K B H th mu rho' sg' ∧ (∀ Q : L2.St → Hp → Prop, Q sg' H → gTs K t vs sg H Q) ∧ ∀ ws : List Nat, (∀ j ∈ t.slots, j ∈ ws) → wipe sg' ws = wipe sg ws
  | .nil, ds, rho, rho', sg, vs, h, s, r => by
    cases ds with
    | nil =>
      cases h
      cases r
      exact ⟨sg, s, fun Q q => ⟨rfl, q⟩, fun _ _ => rfl⟩
    | cons _ _ => cases h
  | .cons a t, ds, rho, rho', sg, vs, h, s, r => by
    cases ds with
    | nil => cases h
    | cons d ds =>
      have h' : (match bindT a d rho with | some rho1 => bindTs t ds rho1 | none => none) = some rho' := h
      split at h'
      · rename_i rho1 e
        cases r with
        | cons r1 r2 =>
          obtain ⟨sg1, s1, q1, w1⟩ := bind_sound e s r1
          obtain ⟨sg2, s2, q2, w2⟩ := binds_sound h' s1 r2
          refine ⟨sg2, s2, fun Q q => ⟨_, _, rfl, q1 _ (q2 Q q)⟩, fun ws hw => ?_⟩
          rw [w2 ws fun j hj => hw j (List.mem_append_right _ hj), w1 ws fun j hj => hw j (List.mem_append_left _ hj)]
      · cases h'
  | .nm _, ds, rho, rho', sg, vs, h, s, r => by cases ds <;> cases h
  | .tup _, ds, rho, rho', sg, vs, h, s, r => by cases ds <;> cases h
end
end
end Lin

set_option maxHeartbeats 4000000
/-! Lin, part Z4: enumerate(t), t a tuple. -/
namespace Lin
open PySem PySem.Spec PyProof.Rows L2
open AutoSeq1 (wpAny_loadPart')

theorem drawsT {prog : Program} {w : World} {A : Around} (hh : A.handled = none) (it l : Addr) (hne : l ≠ it) (items : Array Value) :
    Draws prog w A it [it, l] items.size (fun i v => items[i]? = some v) (fun i h => h.IsTupleIter it l i ∧ h.IsTuple l items) where
  live := fun _ _ st => let ⟨o, ho, _⟩ := st.1; ⟨o, ho⟩
  frame := fun _ _ _ st hk => ⟨st.1.at fun o e => hk it (by simp) o e, st.2.at fun o e => hk l (by simp) o e⟩
  item := fun i s Q E hi st hQ => RZ.nextOf_tuple_item st.1 st.2 (x := items[i]) (by simp [hi]) fun h' a b => hQ _ h' s.toks (by simp [hi]) ⟨a, st.2.extBut b.extBut hne⟩ b
  done := fun s Q E st hE => RZ.nextOf_tuple_end hh st.1 st.2 (by simp) hE
theorem meets_enumT (l : Addr) (items : Array Value) : Meets (Builtin.«enumerate.__new__» ⟨[.type "enumerate", .ref l], []⟩) (fun _ R s => s.heap.IsTuple l items ∧
      R (.ok (.ret (.ref (s.heap.push { cls := .type "tuple_iterator", data := .fields #[.ref l, .int 0 0] }).objs.size)))
        { s with heap := (s.heap.push { cls := .type "tuple_iterator", data := .fields #[.ref l, .int 0 0] }).push { cls := .type "enumerate", data := .fields #[.none, .bool false, .ref s.heap.objs.size, rawInt 0, .none, .none] } }) :=
  .of_wp fun prog w A R s h => by
    obtain ⟨hp, g, d, tk, os⟩ := s
    obtain ⟨hL, h⟩ := h
    have k0 := sub_enumerate
    have tl : Heap.IsTuple (Shared.heap ⟨hp, g, d, tk, os⟩) l items := hL
    wp_walk
    refine wpAny_stack_any fun st => wpAny_pure ?_
    split
    · rename_i c _ _ _ _ _
      cases (c == Value.type "enumerate") <;> (wp_walk using wpAny_pyIter_tuple tl; exact ⟨_, rfl, h⟩)
    · wp_walk using wpAny_pyIter_tuple tl
      exact ⟨_, rfl, h⟩
theorem call_enumT {prog : Program} {w : World} {A : Around} {E : Value → Shared → Prop} {s : Shared} {l : Addr} {items : Array Value} {Q : Value → Shared → Prop} (hL : s.heap.IsTuple l items)
    (h : ∀ h', IsEnum h' (s.heap.objs.size + 1) s.heap.objs.size 0 .none → h'.IsTupleIter s.heap.objs.size l 0 → (∀ b o, s.heap.get? b = some o → h'.get? b = some o) → Q (.ref (s.heap.objs.size + 1)) { s with heap := h' }) :
    wpAny (model prog w) A (call (.type "enumerate") [.ref l]) Q E s := by
  refine callType_new PySem.F.called_enumerate (by decide) (PySem.F.typeCall_enumerate_1 _) (PySem.F.newCall_enumerate_1 _) (fun obj => PySem.F.args_object_init_2 obj _) PySem.F.entry_enumerate_new (meets_enumT l items) ⟨hL, ?_⟩
  have n1 : (s.heap.push { cls := .type "tuple_iterator", data := .fields #[.ref l, .int 0 0] }).objs.size = s.heap.objs.size + 1 := Heap.size_push ..
  have e1 := Heap.get?_push_size (s.heap.push { cls := .type "tuple_iterator", data := .fields #[.ref l, .int 0 0] }) (o := { cls := .type "enumerate", data := .fields #[.none, .bool false, .ref s.heap.objs.size, rawInt 0, .none, .none] }) rfl
  show _ ∧ _
  rw [n1] at e1 ⊢
  exact ⟨⟨_, e1, rfl⟩, h _ e1 ⟨_, Heap.get?_push_of_some _ (Heap.get?_push_size _ rfl), rfl, rfl⟩ fun b o x => Heap.get?_push_of_some _ (Heap.get?_push_of_some _ x)⟩
/-- the tuple at a, each item in a new pair -/
def IteT (K : PySem.W.Frag) (a : Addr) : It :=
  ⟨fun i H => ∃ (xs : List V) (x : V), SqT K H a xs ∧ xs[i]? = some x, fun i H v H' => ∃ T x, v = .ref T ∧ H T = none ∧ H' = upd H T (.tup [.int (i : Nat), x]) ∧ ∀ xs, SqT K H a xs → xs[i]? = some x, fun i H => ∃ xs : List V, SqT K H a xs ∧ xs.length ≤ i⟩
theorem turn_enumT {P : Program} {w : World} {K : PySem.W.Frag} {elts : List Expr} {kk : Nat} {tpos : Pos} (a e it : Addr) :
    Turn P w K (.Tuple elts kk tpos) (IteT K a) [e, it] e (fun i h => (∃ old, IsEnum h e it ((i : Nat) : Int) old) ∧ h.IsTupleIter it a i ∧ e ≠ it ∧ e ≠ a ∧ a ≠ it) where
  mem := by simp
  obj := fun i h st b hb => by
    obtain ⟨⟨old, he⟩, ⟨o, ho, _, hd⟩, _⟩ := st
    rcases List.mem_cons.mp hb with z | z
    · rw [z]; exact ⟨_, he, fun v q => nomatch q⟩
    · rw [List.mem_singleton.mp z]; exact ⟨o, ho, fun v q => by rw [hd] at q; cases q⟩
  keep := fun i h h' st k => let ⟨⟨old, he⟩, hi, hne⟩ := st; ⟨⟨old, k e (by simp) _ he⟩, hi.at fun o q => k it (by simp) o q, hne⟩
  item := by
    intro X hP hw hK hc i pins s σ H E I hf st hg
    subst hP hw hK
    obtain ⟨⟨old, he⟩, hit, hne, hea, hai⟩ := st
    obtain ⟨xs, x, hq, hx⟩ := hg
    obtain ⟨its, rv, p, hz⟩ := I.tuple hq
    obtain ⟨u, hu, ru⟩ := rv.get hx
    have hlt : i < its.toArray.size := by
      have := (List.getElem?_eq_some_iff.mp hu).1
      simpa using this
    have hel : e < s.heap.objs.size := Heap.lt_size he
    have hil : it < s.heap.objs.size := by obtain ⟨_, q, _⟩ := hit; exact Heap.lt_size q
    have hef : e ∉ [it, a] := fun z => by
      rcases List.mem_cons.mp z with q | q
      · exact hne q
      · exact hea (List.mem_singleton.mp q)
    refine wpAny_pyNext_enum_itemD (drawsT (A := X.A.in1) (show X.A.in1.handled = none from I.ok.hd hc) it a hai its.toArray) he ⟨hit, p⟩ hlt hne hef fun y h' tk hy ho hst hT hsz hk => ?_
    have hyu : y = u := by
      have z : its.toArray[i]? = some u := by simpa using hu
      rw [z] at hy
      exact (Option.some.inj hy).symm
    subst hyu
    refine ⟨_, rfl, wpAny_letOwnedTupleGo_enum (s := { s with heap := h', toks := tk + 1 }) ho fun h'' he' sb => ?_⟩
    have hT2 : h''.get? s.heap.objs.size = some { cls := .type "tuple", data := .seq #[.int i tk, y] } := (sb.2 _ (Nat.ne_of_gt hel)).trans hT
    have new : ObjOk X.prog X.w (upd H s.heap.objs.size (.tup [.int (i : Nat), x])) h'' s.heap.objs.size (.tup [.int (i : Nat), x]) :=
      ⟨by show 2 ≤ sizeLine; decide, [.int i tk, y], .cons ⟨_, rfl⟩ (.cons ru .nil), ⟨_, hT2, rfl, _, rfl⟩⟩
    have I1 : Inv X pins σ (upd H s.heap.objs.size (.tup [.int (i : Nat), x])) { s with heap := h'', toks := tk + 1 } :=
      I.turnedNew (ch := [e, it]) (fun b ob hb q => (sb.2 b (fun z => hb (by simp [z]))).trans (hk b ob (fun z => hb (by simp [z])) (fun z => hb (by simp [z])) q)) hf (Nat.le_refl _) new
    refine ⟨.ref s.heap.objs.size, _, I1, rfl, ⟨_, x, rfl, I.hok.fresh (Nat.le_refl _), rfl, fun ys hy => by rw [I.tuple_inj hy hq]; exact hx⟩, ⟨⟨y, ?_⟩, hst.1.at fun o q => (sb.2 it (Ne.symm hne)).trans q, hne, hea, hai⟩, fun b hb => ?_⟩
    · have e1 : ((i + 1 : Nat) : Int) = (i : Int) + 1 := by omega
      rw [e1]; exact he'
    · have hb' : b < s.heap.objs.size := by
        rcases List.mem_cons.mp hb with z | z
        · rw [z]; exact hel
        · rw [List.mem_singleton.mp z]; exact hil
      rw [upd_ne (Nat.ne_of_lt hb')]
      exact (hf b hb).1
  done := by
    intro X hP hw hK hc i pins s σ H E I hf st hg
    subst hP hw hK
    obtain ⟨⟨old, he⟩, hit, hne, hea, hai⟩ := st
    obtain ⟨xs, hq, hx⟩ := hg
    obtain ⟨its, rv, p, hz⟩ := I.tuple hq
    obtain ⟨f0, f1, f2, f3, f4, f5⟩ := hf it (by simp)
    have hl := rv.length
    have hno : its.toArray[i]? = none := by simp; omega
    have hT : s.TypeIs (.ref e) "enumerate" := ⟨_, he, rfl⟩
    unfold pyNext
    refine wpAny_bind (wpAny_attempt (wpAny_callSpecial?_slot (name := Str.ofString "__next__") hT PySem.F.slot_enumerate_next (wpAny_call_entry PySem.F.slot_enumerate_next hT PySem.F.entry_enumerate_next ?_ (PySem.F.args_enumerate_next_1 _))))
    show wpAny _ _ (field (.ref e) 2 >>= _) _ _ _
    refine wpAny_bind (wpAny_field he rfl (x := .ref it) rfl (wpAny_bind (RZ.nextOf_tuple_end (I.ok.hd hc) hit p hno fun h' x he' hx' => ?_)))
    obtain ⟨o, ho, hcx⟩ := hx'
    exact wpAny_bind (wpAny_isInstance (T := "StopIteration") (b := true) ⟨o, ho, hcx⟩ isSubtype_stop (wpAny_pure ⟨rfl, I.turned (t' := s.toks) (fun b o hb q => he' b o hb q) f0 f1 f3 f4 f5⟩))
  self := fun A i s Q E st h => let ⟨⟨_, he⟩, _⟩ := st; wpAny_pyIter_enum he h
def iEnumT (K : PySem.W.Frag) (ta : TA) : TI := fun σ H R => ta σ H fun vs H1 => ∃ a xs, vs = [.ref a] ∧ SqT K H1 a xs ∧ R (IteT K a) H1
theorem pi_enumT {X : Cx} {e : Expr} {ta : TA} {p pos tpos : Pos} {elts : List Expr} {kk : Nat} (hg : Gl X "enumerate") (hm : X.mg "enumerate" = none) (ha : PA X [e] ta) (hs : starEach [e] X.env = [(false, eval e X.env)] := by rfl) :
    PI X (.Tuple elts kk tpos) (.Call (.Name "enumerate" p) [e] [] pos) (iEnumT X.K ta) := by
  refine ⟨fun pins s σ H R I h => ?_⟩
  refine Call_ (ld_blt I hg hm boot_enumerate (PyProof.Rows.callWith_type1 (thn (ha.run pos pins s σ H _ I h) fun us s1 ⟨vs, H1, I1, r1, q1⟩ => ?_) hs rfl))
  obtain ⟨a, xs, ex, hq, q⟩ := q1
  subst ex
  cases r1 with
  | cons r rr =>
    cases rr
    cases r
    obtain ⟨its, rv, p', hz⟩ := I1.tuple hq
    obtain ⟨oa, hoa, _⟩ := id p'
    have hal : a < s1.heap.objs.size := Heap.lt_size hoa
    refine call_enumT p' fun h' he hit hk => wpAny_pyIter_enum he ?_
    have I2 : Inv X pins σ H1 { s1 with heap := h' } := I1.kept (t' := s1.toks) hk
    refine ⟨s1.heap.objs.size + 1, [s1.heap.objs.size + 1, s1.heap.objs.size], _, _, H1, rfl, I2, turn_enumT a (s1.heap.objs.size + 1) s1.heap.objs.size, ⟨⟨.none, he⟩, hit, Nat.succ_ne_self _, Nat.ne_of_gt (Nat.lt_succ_of_lt hal), Nat.ne_of_lt hal⟩, fun b hb => ?_, q⟩
    have hle : s1.heap.objs.size ≤ b := by
      rcases List.mem_cons.mp hb with z | z
      · rw [z]; exact Nat.le_add_right _ _
      · rw [List.mem_singleton.mp z]; exact Nat.le_refl _
    exact I1.fpOk hle (I1.hok.fresh hle)
end Lin

set_option maxHeartbeats 2000000
/-! Lin, part L: chains, what is walked, comprehensions; the theorem. -/
namespace Lin
open PySem PySem.Spec PyProof.Rows L2 RZ
section
variable {nm : Nms} {xa : Nat → Addr}
theorem noV {e : E} {G : Gam} {rho : Env} {mu mu' : Store} {h : Hd} {P : Prop} (q : isIt e = true) (hv : ev G e rho mu = some (h, mu')) : P := by
  cases e <;> first | (cases q; done) | (cases hv; done)
theorem mE_ch {N : List Str} {sc : Scope} {e : E} {x : Expr} {P : Prop} (q : isCh e = true) (h : mE nm N sc e x = true) : P := by
  cases e with
  | anil => cases x <;> exact Bool.noConfusion (show false = true from h)
  | acons a r => cases x <;> exact Bool.noConfusion (show false = true from h)
  | _ => cases q
theorem snd_anil : Snd nm xa .anil where
  v := fun _ h => mE_ch rfl h
  t := fun _ h => mE_ch rfl h
  f := fun _ _ h => mE_ch rfl h
  a := fun {X N sc k G xs rho mu mu' ds} hc h e => by
    cases xs with
    | nil => cases e; exact pa_mono pa_nil fun sg H Q ⟨B, th, sr, q⟩ => q [] B H th sr.toSRc (.refl _ _ _) .nil
    | cons _ _ => exact Bool.noConfusion (show false = true from h)
  hs := fun {X N sc k G xs rho mu mu' ds} hc h e => by
    cases xs with
    | nil => cases e; exact pa_mono pa_nil fun sg H Q ⟨B, th, sr, q⟩ => q [] B H th sr.toSRc (.refl _ _ _) .nil
    | cons _ _ => exact Bool.noConfusion (show false = true from h)
  an := fun _ _ e => by cases e
  anT := fun _ _ e => by cases e
  or := fun _ _ e => by cases e
  orT := fun _ _ e => by cases e
  ts := fun {X N sc k G xs rho mu mu' b} hc h e => by
    cases xs with
    | nil => cases e; exact ⟨fun pins s sg H Q I ⟨B, th, sr, q⟩ => pts_nil.run pins s sg H Q I (q B H th sr.toSRc (.refl _ _ _))⟩
    | cons _ _ => exact Bool.noConfusion (show false = true from h)
  o := fun {X N sc k G x rho mu mu' d} hc h e => by
    cases x with
    | none => cases e; exact ⟨fun pins s sg H Q I ⟨B, th, sr, q⟩ => po_none.run pins s sg H Q I (q B H th sr.toSRc (.refl _ _ _))⟩
    | some _ => exact Bool.noConfusion (show false = true from h)
  i := fun {X N sc k G x tg tp rho mu mu' ds} _ h => by cases x <;> exact Bool.noConfusion (show false = true from h)
theorem mEs_one {N : List Str} {sc : Scope} {a : E} {xs : List Expr} (h : mEs nm N sc (.acons a .anil) xs = true) : ∃ x, xs = [x] ∧ mE nm N sc a x = true := by
  cases xs with
  | nil => exact Bool.noConfusion (show false = true from h)
  | cons x xs =>
    obtain ⟨a', r, e, h1, h2⟩ := mEs_cons h
    cases e
    cases xs with
    | nil => exact ⟨x, rfl, h1⟩
    | cons _ _ => exact Bool.noConfusion (show false = true from h2)
theorem mEs_more {N : List Str} {sc : Scope} {a r : E} {xs : List Expr} (h : mEs nm N sc (.acons a r) xs = true) (hr : r ≠ .anil) : ∃ x y ys, xs = x :: y :: ys ∧ mE nm N sc a x = true ∧ mEs nm N sc r (y :: ys) = true := by
  cases xs with
  | nil => exact Bool.noConfusion (show false = true from h)
  | cons x xs =>
    obtain ⟨a', r', e, h1, h2⟩ := mEs_cons h
    cases e
    cases xs with
    | nil => exact absurd (mEs_nil h2) hr
    | cons y ys => exact ⟨x, y, ys, rfl, h1, h2⟩
theorem snd_acons {a r : E} (A : Snd nm xa a) (R : Snd nm xa r) : Snd nm xa (.acons a r) where
  v := fun _ h => mE_ch rfl h
  t := fun _ h => mE_ch rfl h
  f := fun _ _ h => mE_ch rfl h
  a := fun {X N sc k G xs rho mu mu' ds} hc h e => by
    cases xs with
    | nil => exact Bool.noConfusion (show false = true from h)
    | cons x xs =>
      obtain ⟨a', r', z, h1, h2⟩ := mEs_cons h
      cases z
      obtain ⟨d, m1, e1, e2⟩ := bdD_inv e
      obtain ⟨ds', m2, e3, e4⟩ := bd_inv e2
      cases e4
      exact pa_mono (pa_cons (A.v hc h1 e1) (R.a hc h2 e3) ((mE_form h1).1 _ _)) fun sg H Q ⟨B, th, sr, q⟩ => ⟨B, th, sr, fun v B1 H1 th1 s1 f1 r1 => ⟨B1, th1, sr.fut s1 f1, fun vs B2 H2 th2 s2 f2 r2 =>
        q (v :: vs) B2 H2 th2 s2 (f1.trans f2) (.cons (Rep.mono f2.ex f2.pre r1) r2)⟩⟩
  hs := fun {X N sc k G xs rho mu mu' ds} hc h e => by
    cases xs with
    | nil => exact Bool.noConfusion (show false = true from h)
    | cons x xs =>
      obtain ⟨a', r', z, h1, h2⟩ := mEs_cons h
      cases z
      obtain ⟨d, m1, e1, e2⟩ := bd_inv e
      obtain ⟨ds', m2, e3, e4⟩ := bd_inv e2
      cases e4
      exact pa_mono (pa_cons (A.v hc h1 e1) (R.hs hc h2 e3) ((mE_form h1).1 _ _)) fun sg H Q ⟨B, th, sr, q⟩ => ⟨B, th, sr, fun v B1 H1 th1 s1 f1 r1 => ⟨B1, th1, sr.fut s1 f1, fun vs B2 H2 th2 s2 f2 r2 =>
        q (v :: vs) B2 H2 th2 s2 (f1.trans f2) (.cons (r1.fut f2) r2)⟩⟩
  an := fun {X N sc k G xs rho mu mu' h pos} hc hx e => by
    rcases ev_and e with ⟨b, rfl, e1, rfl⟩ | ⟨hr, ⟨e1, rfl⟩ | ⟨m1, e1, e2⟩⟩
    · obtain ⟨x, rfl, h1⟩ := mEs_one hx
      exact pe_one (A.v hc h1 e1)
    · obtain ⟨x, y, ys, rfl, h1, h2⟩ := mEs_more hx hr
      exact pe_mono (pe_and (A.v hc h1 e1) pe_false) fun sg H Q ⟨B, th, sr, q⟩ => ⟨B, th, sr, fun v B1 H1 th1 s1 f1 r1 => by cases r1; exact ⟨false, rfl, iteF (q _ B1 H1 th1 s1 f1 (.bl false))⟩⟩
    · obtain ⟨x, y, ys, rfl, h1, h2⟩ := mEs_more hx hr
      exact pe_mono (pe_and (A.v hc h1 e1) (R.an hc h2 e2)) fun sg H Q ⟨B, th, sr, q⟩ => ⟨B, th, sr, fun v B1 H1 th1 s1 f1 r1 => by cases r1; exact ⟨true, rfl, iteT ⟨B1, th1, sr.fut s1 f1, fun v B2 H2 th2 s2 f2 r2 => q v B2 H2 th2 s2 (f1.trans f2) r2⟩⟩⟩
  anT := fun {X N sc k G xs rho mu mu' c pos} hc hx e => by
    rcases ev_and e with ⟨b, rfl, e1, e2⟩ | ⟨hr, ⟨e1, e2⟩ | ⟨m1, e1, e2⟩⟩
    · cases e2
      obtain ⟨x, rfl, h1⟩ := mEs_one hx
      exact pw_and1 (A.t hc h1 e1)
    · cases e2
      obtain ⟨x, y, ys, rfl, h1, h2⟩ := mEs_more hx hr
      exact pw_mono (pw_and (A.t hc h1 e1) (tB' := fun _ _ _ => False) ⟨fun _ _ _ _ _ _ _ h => h.elim⟩) fun sg H Q ⟨B, th, sr, q⟩ => ⟨B, th, sr, fun B1 H1 th1 s1 f1 => iteF (q B1 H1 th1 s1 f1)⟩
    · obtain ⟨x, y, ys, rfl, h1, h2⟩ := mEs_more hx hr
      exact pw_mono (pw_and (A.t hc h1 e1) (R.anT hc h2 e2)) fun sg H Q ⟨B, th, sr, q⟩ => ⟨B, th, sr, fun B1 H1 th1 s1 f1 => iteT ⟨B1, th1, sr.fut s1 f1, fun B2 H2 th2 s2 f2 => q B2 H2 th2 s2 (f1.trans f2)⟩⟩
  or := fun {X N sc k G xs rho mu mu' h pos} hc hx e => by
    rcases ev_or e with ⟨b, rfl, e1, rfl⟩ | ⟨hr, ⟨e1, rfl⟩ | ⟨m1, e1, e2⟩⟩
    · obtain ⟨x, rfl, h1⟩ := mEs_one hx
      exact pe_one (A.v hc h1 e1)
    · obtain ⟨x, y, ys, rfl, h1, h2⟩ := mEs_more hx hr
      exact pe_mono (pe_or (A.v hc h1 e1) pe_false) fun sg H Q ⟨B, th, sr, q⟩ => ⟨B, th, sr, fun v B1 H1 th1 s1 f1 r1 => by cases r1; exact ⟨true, rfl, iteT (q _ B1 H1 th1 s1 f1 (.bl true))⟩⟩
    · obtain ⟨x, y, ys, rfl, h1, h2⟩ := mEs_more hx hr
      exact pe_mono (pe_or (A.v hc h1 e1) (R.or hc h2 e2)) fun sg H Q ⟨B, th, sr, q⟩ => ⟨B, th, sr, fun v B1 H1 th1 s1 f1 r1 => by cases r1; exact ⟨false, rfl, iteF ⟨B1, th1, sr.fut s1 f1, fun v B2 H2 th2 s2 f2 r2 => q v B2 H2 th2 s2 (f1.trans f2) r2⟩⟩⟩
  orT := fun {X N sc k G xs rho mu mu' c pos} hc hx e => by
    rcases ev_or e with ⟨b, rfl, e1, e2⟩ | ⟨hr, ⟨e1, e2⟩ | ⟨m1, e1, e2⟩⟩
    · cases e2
      obtain ⟨x, rfl, h1⟩ := mEs_one hx
      exact pw_or1 (A.t hc h1 e1)
    · cases e2
      obtain ⟨x, y, ys, rfl, h1, h2⟩ := mEs_more hx hr
      exact pw_mono (pw_or (A.t hc h1 e1) (tB' := fun _ _ _ => False) ⟨fun _ _ _ _ _ _ _ h => h.elim⟩) fun sg H Q ⟨B, th, sr, q⟩ => ⟨B, th, sr, fun B1 H1 th1 s1 f1 => iteT (q B1 H1 th1 s1 f1)⟩
    · obtain ⟨x, y, ys, rfl, h1, h2⟩ := mEs_more hx hr
      exact pw_mono (pw_or (A.t hc h1 e1) (R.orT hc h2 e2)) fun sg H Q ⟨B, th, sr, q⟩ => ⟨B, th, sr, fun B1 H1 th1 s1 f1 => iteF ⟨B1, th1, sr.fut s1 f1, fun B2 H2 th2 s2 f2 => q B2 H2 th2 s2 (f1.trans f2)⟩⟩
  ts := fun {X N sc k G xs rho mu mu' b} hc hx e => by
    cases r with
    | anil =>
      obtain ⟨x, rfl, h1⟩ := mEs_one hx
      obtain ⟨d, m1, e1, e2⟩ := bdD_inv e
      split at e2
      · rename_i q
        cases e2
        rw [isB_inv q] at e1
        exact pts_one (A.t hc h1 e1)
      · cases e2
    | _ => cases e
  o := fun {X N sc k G x rho mu mu' d} hc hx e => by
    cases r with
    | anil =>
      cases x with
      | none => exact Bool.noConfusion (show false = true from hx)
      | some x =>
        have h1 : mE nm N sc a x = true := hx
        obtain ⟨d1, m1, e1, e2⟩ := bdD_inv e
        split at e2
        · rename_i i q
          cases e2
          rw [isI_inv q] at e1
          exact ⟨fun pins s sg H Q I ⟨B, th, sr, q⟩ => (po_some (A.v hc h1 e1)).run pins s sg H Q I ⟨B, th, sr, fun v B1 H1 th1 s1 f1 r1 => by cases r1; exact ⟨i, rfl, q B1 H1 th1 s1 f1⟩⟩⟩
        · cases e2
    | _ => cases e
  i := fun {X N sc k G x tg tp rho mu mu' ds} _ h => by cases x <;> exact Bool.noConfusion (show false = true from h)

/-! ### what is walked -/
theorem pi_mono {X : Cx} {tg x : Expr} {w w' : TI} (h : PI X tg x w) (hm : ∀ sg H R, w' sg H R → w sg H R) : PI X tg x w' := ⟨fun pins s sg H R I q => h.run pins s sg H R I (hm _ _ _ q)⟩
/-- one that is only walked -/
theorem Snd.ofI {e : E} (h1 : isIt e = true) (h0 : isCh e = false)
    (i : ∀ {X : Cx} {N : List Str} {sc : Scope} {k : Nat} {G : Gam} {x tg : Expr} {tp : Bool} {rho : Env} {mu mu' : Store} {ds : List Dat}, Ctx X N sc k G nm xa → mI nm N sc tp e x = true → (tp = true → ∃ es kk p, tg = .Tuple es kk p) → evI G e rho mu = some (ds, mu') → PI X tg x (tIt X.K rho mu ds mu')) : Snd nm xa e where
  v := fun _ _ e => noV h1 e
  t := fun _ _ e => noV h1 e
  f := fun _ _ _ e => noV h1 e
  a := fun _ h => nope (mEs_ch h) h0
  hs := fun _ h => nope (mEs_ch h) h0
  an := fun _ h => nope (mEs_ch h) h0
  anT := fun _ h => nope (mEs_ch h) h0
  or := fun _ h => nope (mEs_ch h) h0
  orT := fun _ h => nope (mEs_ch h) h0
  ts := fun _ h => nope (mEs_ch h) h0
  o := fun _ h => nope (mO_ch h) h0
  i := i
theorem it_lst {K : PySem.W.Frag} {B : Hp} {th : List Addr} {a : Addr} {vs : List V} {ds : List Dat} (h : SqL K B a vs) (r : Reps K B th ds vs) : ItOk K B th (Itl K a) ds where
  go := fun i H e hi => ⟨vs, _, e.sl h, List.getElem?_eq_getElem (by rw [r.length]; exact hi)⟩
  stop := fun i H e hi => ⟨vs, e.sl h, by rw [r.length]; exact hi⟩
  yld := fun i H x H' d e hd y => by
    obtain ⟨rfl, y⟩ := y
    obtain ⟨v, h1, h2⟩ := r.get hd
    have q := y vs (e.sl h)
    rw [h1] at q
    cases q
    exact .inl ⟨rfl, h2⟩
theorem it_tup {K : PySem.W.Frag} {B : Hp} {th : List Addr} {a : Addr} {vs : List V} {ds : List Dat} (h : B a = some (.tup vs)) (r : Reps K B th ds vs) : ItOk K B th (Itt K a) ds where
  go := fun i H e hi => ⟨vs, _, .inl (.inl (e _ _ h)), List.getElem?_eq_getElem (by rw [r.length]; exact hi)⟩
  stop := fun i H e hi => ⟨vs, .inl (.inl (e _ _ h)), by rw [r.length]; exact hi⟩
  yld := fun i H x H' d e hd y => by
    obtain ⟨rfl, y⟩ := y
    obtain ⟨v, h1, h2⟩ := r.get hd
    have q := y vs (.inl (.inl (e _ _ h)))
    rw [h1] at q
    cases q
    exact .inl ⟨rfl, h2⟩
theorem rangeD_len (lo : Int) (n : Nat) : (rangeD lo n).length = n := by unfold rangeD; rw [List.length_map, List.length_range]
theorem it_rng {K : PySem.W.Frag} {B : Hp} {th : List Addr} {lo : Int} {n : Nat} : ItOk K B th (Itr lo n) (rangeD lo n) where
  go := fun i H e hi => by rw [rangeD_len] at hi; exact hi
  stop := fun i H e hi => by rw [rangeD_len] at hi; exact hi
  yld := fun i H x H' d e hd y => by
    obtain ⟨rfl, rfl⟩ := y
    unfold rangeD at hd
    rw [List.getElem?_map] at hd
    cases q : (List.range n)[i]? with
    | none => rw [q] at hd; cases hd
    | some j =>
      rw [q] at hd
      cases hd
      have : j = i := by
        obtain ⟨_, h2⟩ := List.getElem?_eq_some_iff.mp q
        rw [List.getElem_range] at h2
        exact h2.symm
      subst this
      exact .inl ⟨rfl, .int _⟩
theorem small62 {i : Int} (h : smallI i) : -(2 ^ 62) ≤ i ∧ i < 2 ^ 62 := by
  have e : (2 : Int) ^ 62 = 4611686018427387904 := by decide
  rw [e]
  exact h
theorem snd_items {a : E} (A : Snd nm xa a) : Snd nm xa (.items a) := by
  refine Snd.ofI rfl rfl fun {X N sc k G x tg tp rho mu mu' ds} hc hx _ he => ?_
  have h1 : mE nm N sc a x = true := by cases x <;> exact hx
  obtain ⟨d, m1, e1, e2⟩ := bdD_inv he
  split at e2
  · rename_i l q
    cases e2
    cases d with
    | lst xs =>
      cases q
      exact pi_mono (pi_list (A.v hc h1 e1)) fun sg H R ⟨B, th, sr, q⟩ => ⟨B, th, sr, fun v B1 H1 th1 s1 f1 r1 => by
        cases r1 with
        | lst g1 g2 => exact ⟨_, rfl, ⟨_, s1.ex.sl g1⟩, q _ B1 H1 th1 s1 f1 (it_lst g1 g2)⟩⟩
    | tup xs =>
      cases q
      exact pi_mono (pi_tup (A.v hc h1 e1)) fun sg H R ⟨B, th, sr, q⟩ => ⟨B, th, sr, fun v B1 H1 th1 s1 f1 r1 => by
        cases r1 with
        | tup g1 g2 => exact ⟨_, rfl, ⟨_, .inl (.inl (s1.ex _ _ g1))⟩, q _ B1 H1 th1 s1 f1 (it_tup g1 g2)⟩⟩
    | _ => cases q
  · cases e2
theorem inv_r1 {N : List Str} {sc : Scope} {tp : Bool} {a : E} {x : Expr} (h : mI nm N sc tp (.range1 a) x = true) : ∃ p y pos, x = .Call (.Name "range" p) [y] [] pos ∧ glB sc "range" = true ∧ mE nm N sc a y = true := by
  cases x with
  | Call fn xs ks pos =>
    cases fn with
    | Name y p =>
      match xs, ks, h with
      | [z], [], h =>
        obtain ⟨h1, h3⟩ := and2 (show (decide (y = ("range" : Str)) && glB sc y && mE nm N sc a z) = true from h)
        obtain ⟨h1, h2⟩ := and2 h1
        have e := of_decide_eq_true h1
        subst e
        exact ⟨p, z, pos, rfl, h2, h3⟩
      | [], _, h => exact Bool.noConfusion (show false = true from h)
      | [_], _ :: _, h => exact Bool.noConfusion (show false = true from h)
      | _ :: _ :: _, _, h => exact Bool.noConfusion (show false = true from h)
    | _ => exact Bool.noConfusion (show false = true from h)
  | _ => exact Bool.noConfusion (show false = true from h)
theorem inv_r2 {N : List Str} {sc : Scope} {tp : Bool} {a b : E} {x : Expr} (h : mI nm N sc tp (.range2 a b) x = true) : ∃ p y z pos, x = .Call (.Name "range" p) [y, z] [] pos ∧ glB sc "range" = true ∧ mE nm N sc a y = true ∧ mE nm N sc b z = true := by
  cases x with
  | Call fn xs ks pos =>
    cases fn with
    | Name y p =>
      match xs, ks, h with
      | [z, w], [], h =>
        obtain ⟨h1, h4⟩ := and2 (show (decide (y = ("range" : Str)) && glB sc y && mE nm N sc a z && mE nm N sc b w) = true from h)
        obtain ⟨h1, h3⟩ := and2 h1
        obtain ⟨h1, h2⟩ := and2 h1
        have e := of_decide_eq_true h1
        subst e
        exact ⟨p, z, w, pos, rfl, h2, h3, h4⟩
      | [], _, h => exact Bool.noConfusion (show false = true from h)
      | [_], _, h => exact Bool.noConfusion (show false = true from h)
      | [_, _], _ :: _, h => exact Bool.noConfusion (show false = true from h)
      | _ :: _ :: _ :: _, _, h => exact Bool.noConfusion (show false = true from h)
    | _ => exact Bool.noConfusion (show false = true from h)
  | _ => exact Bool.noConfusion (show false = true from h)
theorem snd_range1 {a : E} (A : Snd nm xa a) : Snd nm xa (.range1 a) := by
  refine Snd.ofI rfl rfl fun {X N sc k G x tg tp rho mu mu' ds} hc hx _ he => ?_
  obtain ⟨p, y, pos, rfl, h1, h2⟩ := inv_r1 hx
  obtain ⟨d, m1, e1, e2⟩ := bdD_inv he
  split at e2
  · rename_i n q
    split at e2
    · rename_i hs
      cases e2
      rw [isI_inv q] at e1
      exact pi_mono (pi_range1 (gl_of hc h1) (hc.g.bt _ (by decide)) (pa_cons (A.v hc h2 e1) pa_nil ((mE_form h2).1 _ _)) ((mE_form h2).1 _ _)) fun sg H R ⟨B, th, sr, q⟩ => ⟨B, th, sr, fun v B1 H1 th1 s1 f1 r1 => by
        cases r1
        exact ⟨n, rfl, (small62 hs).1, (small62 hs).2, q _ B1 H1 th1 s1 f1 it_rng⟩⟩
    · cases e2
  · cases e2
theorem snd_range2 {a b : E} (A : Snd nm xa a) (Bb : Snd nm xa b) : Snd nm xa (.range2 a b) := by
  refine Snd.ofI rfl rfl fun {X N sc k G x tg tp rho mu mu' ds} hc hx _ he => ?_
  obtain ⟨p, y, z, pos, rfl, h1, h2, h3⟩ := inv_r2 hx
  obtain ⟨d, m1, e1, e2⟩ := bdD_inv he
  obtain ⟨d', m2, e3, e4⟩ := bdD_inv e2
  split at e4
  · rename_i i j q1 q2
    split at e4
    · rename_i hs
      cases e4
      rw [isI_inv q1] at e1
      rw [isI_inv q2] at e3
      exact pi_mono (pi_range2 (gl_of hc h1) (hc.g.bt _ (by decide)) (pa_cons (A.v hc h2 e1) (pa_cons (Bb.v hc h3 e3) pa_nil ((mE_form h3).1 _ _)) ((mE_form h2).1 _ _)) (by rw [(mE_form h2).1, (mE_form h3).1]; rfl) ((mE_form h3).1 _ _)) fun sg H R ⟨B, th, sr, q⟩ =>
        ⟨B, th, sr, fun v B1 H1 th1 s1 f1 r1 => ⟨B1, th1, sr.fut s1 f1, fun v2 B2 H2 th2 s2 f2 r2 => by
          cases r1
          cases r2
          exact ⟨i, j, rfl, ⟨(small62 hs.1).1, (small62 hs.1).2, (small62 hs.2).1, (small62 hs.2).2⟩, q _ B2 H2 th2 s2 (f1.trans f2) it_rng⟩⟩⟩
    · cases e4
  · cases e4
theorem zipD_get : ∀ {xs ys : List Dat} {i : Nat} {d : Dat}, (zipD xs ys)[i]? = some d → ∃ x y, d = .tup [x, y] ∧ xs[i]? = some x ∧ ys[i]? = some y
  | [], _, _, _, h => by simp [zipD] at h
  | _ :: _, [], _, _, h => by simp [zipD] at h
  | x :: xs, y :: ys, 0, d, h => ⟨x, y, by simpa [zipD] using h.symm, rfl, rfl⟩
  | x :: xs, y :: ys, i + 1, d, h => by
    obtain ⟨a, b, e, h1, h2⟩ := zipD_get (xs := xs) (ys := ys) (i := i) (d := d) (by simpa [zipD] using h)
    exact ⟨a, b, e, by simpa using h1, by simpa using h2⟩
theorem zipD_len : ∀ (xs ys : List Dat), (zipD xs ys).length = min xs.length ys.length
  | [], _ => by simp [zipD]
  | _ :: _, [] => by simp [zipD]
  | x :: xs, y :: ys => by
    show (zipD xs ys).length + 1 = _
    rw [zipD_len xs ys, List.length_cons, List.length_cons]
    omega
theorem it_zipL {K : PySem.W.Frag} {B : Hp} {th : List Addr} {a b : Addr} {vs ws : List V} {ds es : List Dat} (h : SqL K B a vs) (r : Reps K B th ds vs) (h' : SqL K B b ws) (r' : Reps K B th es ws) : ItOk K B th (Itz K a b) (zipD ds es) where
  go := fun i H e hi => by
    rw [zipD_len] at hi
    exact ⟨vs, ws, _, _, e.sl h, e.sl h', List.getElem?_eq_getElem (by rw [r.length]; omega), List.getElem?_eq_getElem (by rw [r'.length]; omega)⟩
  stop := fun i H e hi => by
    rw [zipD_len] at hi
    exact ⟨vs, ws, e.sl h, e.sl h', by rw [r.length, r'.length]; omega⟩
  yld := fun i H x H' d e hd y => by
    obtain ⟨T, y1, y2, rfl, n, rfl, g1, g2⟩ := y
    obtain ⟨d1, d2, rfl, k1, k2⟩ := zipD_get hd
    obtain ⟨v1, a1, a2⟩ := r.get k1
    obtain ⟨v2, b1, b2⟩ := r'.get k2
    have q1 := g1 vs (e.sl h)
    have q2 := g2 ws (e.sl h')
    rw [a1] at q1
    rw [b1] at q2
    cases q1
    cases q2
    exact .inr ⟨T, _, _, d1, d2, rfl, n, rfl, rfl, a2, b2⟩
theorem it_zipT {K : PySem.W.Frag} {B : Hp} {th : List Addr} {a b : Addr} {vs ws : List V} {ds es : List Dat} (h : B a = some (.tup vs)) (r : Reps K B th ds vs) (h' : B b = some (.tup ws)) (r' : Reps K B th es ws) : ItOk K B th (ItzT K a b) (zipD ds es) where
  go := fun i H e hi => by
    rw [zipD_len] at hi
    exact ⟨vs, ws, _, _, .inl (.inl (e _ _ h)), .inl (.inl (e _ _ h')), List.getElem?_eq_getElem (by rw [r.length]; omega), List.getElem?_eq_getElem (by rw [r'.length]; omega)⟩
  stop := fun i H e hi => by
    rw [zipD_len] at hi
    exact ⟨vs, ws, .inl (.inl (e _ _ h)), .inl (.inl (e _ _ h')), by rw [r.length, r'.length]; omega⟩
  yld := fun i H x H' d e hd y => by
    obtain ⟨T, y1, y2, rfl, n, rfl, g1, g2⟩ := y
    obtain ⟨d1, d2, rfl, k1, k2⟩ := zipD_get hd
    obtain ⟨v1, a1, a2⟩ := r.get k1
    obtain ⟨v2, b1, b2⟩ := r'.get k2
    have q1 := g1 vs (.inl (.inl (e _ _ h)))
    have q2 := g2 ws (.inl (.inl (e _ _ h')))
    rw [a1] at q1
    rw [b1] at q2
    cases q1
    cases q2
    exact .inr ⟨T, _, _, d1, d2, rfl, n, rfl, rfl, a2, b2⟩
theorem inv_zip {N : List Str} {sc : Scope} {tp : Bool} {a b : E} {x : Expr} (h : mI nm N sc tp (.zip a b) x = true) : ∃ p y z pos, tp = true ∧ x = .Call (.Name "zip" p) [y, z] [] pos ∧ glB sc "zip" = true ∧ mE nm N sc a y = true ∧ mE nm N sc b z = true := by
  cases x with
  | Call fn xs ks pos =>
    cases fn with
    | Name y p =>
      match xs, ks, h with
      | [z, w], [], h =>
        obtain ⟨h1, h4⟩ := and2 (show (tp && decide (y = ("zip" : Str)) && glB sc y && mE nm N sc a z && mE nm N sc b w) = true from h)
        obtain ⟨h1, h3⟩ := and2 h1
        obtain ⟨h1, h2⟩ := and2 h1
        obtain ⟨h0, h1⟩ := and2 h1
        have e := of_decide_eq_true h1
        subst e
        exact ⟨p, z, w, pos, h0, rfl, h2, h3, h4⟩
      | [], _, h => exact Bool.noConfusion (show false = true from h)
      | [_], _, h => exact Bool.noConfusion (show false = true from h)
      | [_, _], _ :: _, h => exact Bool.noConfusion (show false = true from h)
      | _ :: _ :: _ :: _, _, h => exact Bool.noConfusion (show false = true from h)
    | _ => exact Bool.noConfusion (show false = true from h)
  | _ => exact Bool.noConfusion (show false = true from h)
theorem zipX_inv {x y : Dat} {l : List Dat} (h : zipX x y = some l) : (∃ xs ys, x = .lst xs ∧ y = .lst ys ∧ l = zipD xs ys) ∨ ∃ xs ys, x = .tup xs ∧ y = .tup ys ∧ l = zipD xs ys := by
  unfold zipX at h
  split at h
  · cases h; exact .inl ⟨_, _, rfl, rfl, rfl⟩
  · cases h; exact .inr ⟨_, _, rfl, rfl, rfl⟩
  · cases h
theorem snd_zip {a b : E} (A : Snd nm xa a) (Bb : Snd nm xa b) : Snd nm xa (.zip a b) := by
  refine Snd.ofI rfl rfl fun {X N sc k G x tg tp rho mu mu' ds} hc hx ht he => ?_
  obtain ⟨p, y, z, pos, htp, rfl, h1, h2, h3⟩ := inv_zip hx
  obtain ⟨es, kk, p2, rfl⟩ := ht htp
  obtain ⟨d, m1, e1, e2⟩ := bdD_inv he
  obtain ⟨d', m2, e3, e4⟩ := bdD_inv e2
  split at e4
  · rename_i l q
    cases e4
    have PAx := pa_cons (A.v hc h2 e1) (pa_cons (Bb.v hc h3 e3) pa_nil ((mE_form h3).1 _ _)) ((mE_form h2).1 _ _)
    refine pi_mono (pi_zipA (gl_of hc h1) (hc.g.bt _ (by decide)) PAx ((mE_form h2).1 _ _) (by rw [(mE_form h3).1]; rfl)) fun sg H R ⟨B, th, sr, g⟩ => ⟨B, th, sr, fun v B1 H1 th1 s1 f1 r1 => ⟨B1, th1, sr.fut s1 f1, fun v2 B2 H2 th2 s2 f2 r2 => ?_⟩⟩
    have r1' := r1.fut f2
    rcases zipX_inv q with ⟨xs, ys, rfl, rfl, rfl⟩ | ⟨xs, ys, rfl, rfl, rfl⟩
    · cases r1' with
      | lst a1 a2 =>
        cases r2 with
        | lst b1 b2 => exact ⟨_, _, _, _, rfl, .inl ⟨s2.ex.sl a1, s2.ex.sl b1, g _ B2 H2 th2 s2 (f1.trans f2) (it_zipL a1 a2 b1 b2)⟩⟩
    · cases r1' with
      | tup a1 a2 =>
        cases r2 with
        | tup b1 b2 => exact ⟨_, _, _, _, rfl, .inr ⟨.inl (.inl (s2.ex _ _ a1)), .inl (.inl (s2.ex _ _ b1)), g _ B2 H2 th2 s2 (f1.trans f2) (it_zipT a1 a2 b1 b2)⟩⟩
  · cases e4
theorem enumD_get : ∀ {xs : List Dat} {n i : Nat} {d : Dat}, (enumD n xs)[i]? = some d → ∃ x, d = .tup [.int ((n + i : Nat) : Int), x] ∧ xs[i]? = some x
  | [], _, _, _, h => by simp [enumD] at h
  | x :: xs, n, 0, d, h => ⟨x, by simpa [enumD] using h.symm, rfl⟩
  | x :: xs, n, i + 1, d, h => by
    obtain ⟨a, e, h1⟩ := enumD_get (xs := xs) (n := n + 1) (i := i) (d := d) (by simpa [enumD] using h)
    refine ⟨a, ?_, by simpa using h1⟩
    rw [e]
    have : n + 1 + i = n + (i + 1) := by omega
    rw [this]
theorem enumD_len : ∀ (xs : List Dat) (n : Nat), (enumD n xs).length = xs.length
  | [], _ => rfl
  | x :: xs, n => by
    show (enumD (n + 1) xs).length + 1 = _
    rw [enumD_len xs, List.length_cons]
theorem it_enum {K : PySem.W.Frag} {B : Hp} {th : List Addr} {a : Addr} {vs : List V} {ds : List Dat} (h : SqL K B a vs) (r : Reps K B th ds vs) : ItOk K B th (Ite K a) (enumD 0 ds) where
  go := fun i H e hi => by
    rw [enumD_len] at hi
    exact ⟨vs, _, e.sl h, List.getElem?_eq_getElem (by rw [r.length]; exact hi)⟩
  stop := fun i H e hi => by
    rw [enumD_len] at hi
    exact ⟨vs, e.sl h, by rw [r.length]; exact hi⟩
  yld := fun i H x H' d e hd y => by
    obtain ⟨T, y1, rfl, n, rfl, g1⟩ := y
    obtain ⟨d1, rfl, k1⟩ := enumD_get hd
    obtain ⟨v1, a1, a2⟩ := r.get k1
    have q1 := g1 vs (e.sl h)
    rw [a1] at q1
    cases q1
    rw [Nat.zero_add]
    exact .inr ⟨T, _, _, _, d1, rfl, n, rfl, rfl, .int _, a2⟩
theorem it_enumT {K : PySem.W.Frag} {B : Hp} {th : List Addr} {a : Addr} {vs : List V} {ds : List Dat} (h : B a = some (.tup vs)) (r : Reps K B th ds vs) : ItOk K B th (IteT K a) (enumD 0 ds) where
  go := fun i H e hi => by
    rw [enumD_len] at hi
    exact ⟨vs, _, .inl (.inl (e _ _ h)), List.getElem?_eq_getElem (by rw [r.length]; exact hi)⟩
  stop := fun i H e hi => by
    rw [enumD_len] at hi
    exact ⟨vs, .inl (.inl (e _ _ h)), by rw [r.length]; exact hi⟩
  yld := fun i H x H' d e hd y => by
    obtain ⟨T, y1, rfl, n, rfl, g1⟩ := y
    obtain ⟨d1, rfl, k1⟩ := enumD_get hd
    obtain ⟨v1, a1, a2⟩ := r.get k1
    have q1 := g1 vs (.inl (.inl (e _ _ h)))
    rw [a1] at q1
    cases q1
    rw [Nat.zero_add]
    exact .inr ⟨T, _, _, _, d1, rfl, n, rfl, rfl, .int _, a2⟩
theorem inv_enum {N : List Str} {sc : Scope} {tp : Bool} {a : E} {x : Expr} (h : mI nm N sc tp (.enum a) x = true) : ∃ p y pos, tp = true ∧ x = .Call (.Name "enumerate" p) [y] [] pos ∧ glB sc "enumerate" = true ∧ mE nm N sc a y = true := by
  cases x with
  | Call fn xs ks pos =>
    cases fn with
    | Name y p =>
      match xs, ks, h with
      | [z], [], h =>
        obtain ⟨h1, h3⟩ := and2 (show (tp && decide (y = ("enumerate" : Str)) && glB sc y && mE nm N sc a z) = true from h)
        obtain ⟨h1, h2⟩ := and2 h1
        obtain ⟨h0, h1⟩ := and2 h1
        have e := of_decide_eq_true h1
        subst e
        exact ⟨p, z, pos, h0, rfl, h2, h3⟩
      | [], _, h => exact Bool.noConfusion (show false = true from h)
      | [_], _ :: _, h => exact Bool.noConfusion (show false = true from h)
      | _ :: _ :: _, _, h => exact Bool.noConfusion (show false = true from h)
    | _ => exact Bool.noConfusion (show false = true from h)
  | _ => exact Bool.noConfusion (show false = true from h)
theorem snd_enum {a : E} (A : Snd nm xa a) : Snd nm xa (.enum a) := by
  refine Snd.ofI rfl rfl fun {X N sc k G x tg tp rho mu mu' ds} hc hx ht he => ?_
  obtain ⟨p, y, pos, htp, rfl, h1, h2⟩ := inv_enum hx
  obtain ⟨es, kk, p2, rfl⟩ := ht htp
  obtain ⟨d, m1, e1, e2⟩ := bdD_inv he
  split at e2
  · rename_i l
    cases e2
    exact pi_mono (pi_enum (gl_of hc h1) (hc.g.bt _ (by decide)) (pa_cons (A.v hc h2 e1) pa_nil ((mE_form h2).1 _ _)) ((mE_form h2).1 _ _)) fun sg H R ⟨B, th, sr, q⟩ => ⟨B, th, sr, fun v B1 H1 th1 s1 f1 r1 => by
      cases r1 with
      | lst a1 a2 => exact ⟨_, _, rfl, s1.ex.sl a1, q _ B1 H1 th1 s1 f1 (it_enum a1 a2)⟩⟩
  · rename_i l
    cases e2
    exact pi_mono (pi_enumT (gl_of hc h1) (hc.g.bt _ (by decide)) (pa_cons (A.v hc h2 e1) pa_nil ((mE_form h2).1 _ _)) ((mE_form h2).1 _ _)) fun sg H R ⟨B, th, sr, q⟩ => ⟨B, th, sr, fun v B1 H1 th1 s1 f1 r1 => by
      cases r1 with
      | tup a1 a2 => exact ⟨_, _, rfl, .inl (.inl (s1.ex _ _ a1)), q _ B1 H1 th1 s1 f1 (it_enumT a1 a2)⟩⟩
  · cases e2
end
end Lin

set_option maxHeartbeats 2000000
/-! Lin, part M: comprehensions, isinstance, ranges as values; every expression is sound. -/
namespace Lin
open PySem PySem.Spec PyProof.Rows L2
section
variable {nm : Nms} {xa : Nat → Addr}
theorem Ctx.blk {X : Cx} {N : List Str} {sc : Scope} {k : Nat} {G : Gam} (hc : Ctx X N sc k G nm xa) (s : Shared) (H : Hp) (scope : Scope) (C : Addr) (cl : List (Str × Addr)) (fp : List Addr) :
    Ctx (X.blk s H scope (compEnvC scope cl C X.env) fp) N (relS scope sc) k G nm xa := by
  obtain ⟨rfl, nd, rfl, calm, room, g⟩ := hc
  exact ⟨rfl, nd, rfl, calm, room, g⟩
theorem inv_lc {N : List Str} {sc : Scope} {own : List (Str × Nat)} {tg : T} {it ifs elt : E} {x : Expr} (h : mE nm N sc (.lc own tg it ifs elt) x = true) : ∃ y t i fs scope pos, x = .ListComp y [⟨t, i, fs, 0⟩] scope pos ∧ mI nm N sc (isTup tg) it i = true ∧ blkC N sc scope own = true ∧
    mT N (relS scope sc) (compOk scope) tg t = true ∧ (∀ j ∈ tg.slots, j ∈ own.map (·.2)) ∧ mEs nm N (relS scope sc) ifs fs = true ∧ mE nm N (relS scope sc) elt y = true := by
  cases x with
  | ListComp y gs scope pos =>
    match gs, h with
    | [⟨t, i, fs, as⟩], h =>
      by_cases ha : as = 0
      · subst ha
        obtain ⟨h1, h6⟩ := and2 (show (mI nm N sc (isTup tg) it i && blkC N sc scope own && mT N (relS scope sc) (compOk scope) tg t && tg.slots.all (fun j => decide (j ∈ own.map (·.2))) && mEs nm N (relS scope sc) ifs fs && mE nm N (relS scope sc) elt y) = true from h)
        obtain ⟨h1, h5⟩ := and2 h1
        obtain ⟨h1, h4⟩ := and2 h1
        obtain ⟨h1, h3⟩ := and2 h1
        obtain ⟨h1, h2⟩ := and2 h1
        exact ⟨y, t, i, fs, scope, pos, rfl, h1, h2, h3, fun j hj => of_decide_eq_true (List.all_eq_true.mp h4 j hj), h5, h6⟩
      · exfalso
        cases as with
        | ofNat n =>
          cases n with
          | zero => exact ha rfl
          | succ n => exact Bool.noConfusion (show false = true from h)
        | negSucc n => exact Bool.noConfusion (show false = true from h)
    | [], h => exact Bool.noConfusion (show false = true from h)
    | ⟨t, i, fs, as⟩ :: _ :: _, h =>
      cases as with
      | ofNat n => cases n <;> exact Bool.noConfusion (show false = true from h)
      | negSucc n => exact Bool.noConfusion (show false = true from h)
  | _ => exact Bool.noConfusion (show false = true from h)
theorem mI_form {N : List Str} {sc : Scope} {tp : Bool} {e : E} {x : Expr} (h : mI nm N sc tp e x = true) : ∀ env v, foldedSetIterable x env v = pure v := by
  cases e with
  | items a => exact (mE_form (show mE nm N sc a x = true by cases x <;> exact h)).2.1
  | range1 a => obtain ⟨p, y, pos, rfl, _⟩ := inv_r1 h; exact fun _ _ => rfl
  | range2 a b => obtain ⟨p, y, z, pos, rfl, _⟩ := inv_r2 h; exact fun _ _ => rfl
  | zip a b => obtain ⟨p, y, z, pos, _, rfl, _⟩ := inv_zip h; exact fun _ _ => rfl
  | enum a => obtain ⟨p, y, pos, _, rfl, _⟩ := inv_enum h; exact fun _ _ => rfl
  | _ => cases x <;> exact Bool.noConfusion (show false = true from h)
theorem isTup_of {N : List Str} {sc : Scope} {ok : Str → Bool} {tg : T} {t : Expr} (h : mT N sc ok tg t = true) : isTup tg = true → ∃ es kk p, t = .Tuple es kk p := fun ht => by
  cases tg with
  | tup a =>
    cases t with
    | Tuple es kk p => exact ⟨es, kk, p, rfl⟩
    | _ => exact Bool.noConfusion (show false = true from h)
  | _ => cases ht
/-- a reading for all turns -/
def tVx (K : PySem.W.Frag) (G : Gam) (e : E) : TE := fun sg H Q => ∃ rho mu h mu', ev G e rho mu = some (h, mu') ∧ tV K rho mu h mu' sg H Q
def tTx (K : PySem.W.Frag) (G : Gam) (e : E) : TT := fun sg H Q => ∃ rho mu b mu', evTs G e rho mu = some (b, mu') ∧ tTs K rho mu b mu' sg H Q
theorem Snd.vx {e : E} (A : Snd nm xa e) {X : Cx} {N : List Str} {sc : Scope} {k : Nat} {G : Gam} {x : Expr} (hc : Ctx X N sc k G nm xa) (hx : mE nm N sc e x = true) : PE X x (tVx X.K G e) :=
  ⟨fun pins s sg H Q I ⟨rho, mu, h, mu', e1, q⟩ => (A.v hc hx e1).run pins s sg H Q I q⟩
theorem Snd.tx {e : E} (A : Snd nm xa e) {X : Cx} {N : List Str} {sc : Scope} {k : Nat} {G : Gam} {xs : List Expr} (hc : Ctx X N sc k G nm xa) (hx : mEs nm N sc e xs = true) : PTs X xs (tTx X.K G e) :=
  ⟨fun pins s sg H Q I ⟨rho, mu, h, mu', e1, q⟩ => (A.ts hc hx e1).run pins s sg H Q I q⟩
theorem compOk_fn {scope : Scope} {x : Str} {sc : Scope} (h : compOk scope x = true) : (scope.names.lookup x == some NameKind.cell) = true ∨ (relS scope sc).names.lookup x = some .local := by
  unfold compOk at h
  split at h
  · rename_i e
    exact .inr (lookup_relS_keep (by decide) e)
  · rename_i e
    exact .inl (by rw [e]; rfl)
  · cases h
theorem ev_lc {G : Gam} {own : List (Str × Nat)} {tg : T} {it ifs elt : E} {rho : Env} {mu mu' : Store} {h : Hd} (hv : ev G (.lc own tg it ifs elt) rho mu = some (h, mu')) : ∃ xs m1 ds, evI G it rho mu = some (xs, m1) ∧ xs.length ≤ cap ∧
    lcGo (fun x => bindT tg x (wipeE rho (own.map (·.2)))) (fun rho' mu' => evTs G ifs rho' mu') (fun rho' mu' => bdD (ev G elt rho' mu') fun d mu2 => some (d, mu2)) xs m1 = some (ds, mu') ∧ h = .dat (.lst ds) := by
  obtain ⟨xs, m1, e1, e2⟩ := bd_inv hv
  split at e2
  · rename_i hl
    obtain ⟨ds, m2, e3, e4⟩ := bd_inv e2
    cases e4
    exact ⟨xs, m1, ds, e1, hl, e3, rfl⟩
  · cases e2
theorem Fut.no {B H B' H' : Hp} {th th' : List Addr} {p : Addr} {o : HO} (f : Fut B H th B' H' th') (hl : H p = some o) (hb : B p = none) (hp : p ∉ th) (htt : ∀ vs, o ≠ .tup vs := by intro _ z; cases z) : H' p = some o ∧ B' p = none ∧ p ∉ th' := by
  refine ⟨f.fr p o hl hp, ?_, fun hm => ?_⟩
  · cases q : B' p with
    | none => rfl
    | some u =>
      rcases f.bn p (by rw [q]; simp) with z | z | ⟨vs, z⟩
      · exact absurd hb z
      · rw [hl] at z; cases z
      · rw [hl] at z; exact absurd (Option.some.inj z) (htt vs)
  · rcases f.nw p hm with z | z
    · exact hp z
    · rw [hl] at z; cases z
theorem ItOk.step {K : PySem.W.Frag} {B B2 H2 : Hp} {th th2 : List Addr} {mu : Store} {J : It} {items : List Dat} {i : Nat} {x : V} {H' : Hp} {d : Dat} (it : ItOk K B th J items) (e : Ex B B2) (p : th <+: th2) (s : SRc K B2 H2 th2 mu) (hd : items[i]? = some d) (y : J.yld i H2 x H') :
    ∃ B3, SRc K B3 H' th2 mu ∧ Fut B2 H2 th2 B3 H' th2 ∧ Rep K B3 th2 d x := by
  rcases it.yld i H2 x H' d (e.trans s.ex) hd y with ⟨rfl, r⟩ | ⟨q, y1, z, d1, d2, rfl, n, rfl, rfl, r1, r2⟩
  · exact ⟨B2, s, .refl _ _ _, r.mono e p⟩
  · refine ⟨upd B2 q (.tup [y1, z]), s.new n, .new s.ex n, .tup upd_same (.cons ?_ (.cons ?_ .nil))⟩
    · exact r1.mono (e.trans (Ex.new (s.ex.nn n))) p
    · exact r2.mono (e.trans (Ex.new (s.ex.nn n))) p
theorem lc_read {K : PySem.W.Frag} {G : Gam} {own : List Nat} {tg : T} {ifs elt : E} {xs ds : List Dat} {rho : Env} {mu m1 mu' : Store} (hl : xs.length ≤ cap) (hs : ∀ j ∈ tg.slots, j ∈ own)
    (e : lcGo (fun x => bindT tg x (wipeE rho own)) (fun rho' mu' => evTs G ifs rho' mu') (fun rho' mu' => bdD (ev G elt rho' mu') fun d mu2 => some (d, mu2)) xs m1 = some (ds, mu')) :
    ∀ sg H Q, tF K rho mu ds mu' sg H Q → tLc (tIt K rho mu xs m1) (gT K tg) (tTx K G ifs) (tVx K G elt) own sg H Q := fun sg H Q ⟨B, th, sr, q⟩ => by
  refine ⟨B, th, sr, fun J B1 H1 th1 s1 f1 it D nD => ?_⟩
  refine ⟨fun i m H2 => ∃ B2 th2 m2 accd acc rest, m = xs.length - i ∧ i ≤ xs.length ∧ SRc K B2 H2 th2 m2 ∧ Fut B1 H1 th1 B2 H2 th2 ∧ B2 D = none ∧ D ∉ th2 ∧ H2 D = some (.lst acc) ∧ Reps K B2 th2 accd acc ∧ accd.length ≤ i ∧
      lcGo (fun x => bindT tg x (wipeE rho own)) (fun rho' mu' => evTs G ifs rho' mu') (fun rho' mu' => bdD (ev G elt rho' mu') fun d mu2 => some (d, mu2)) (xs.drop i) m2 = some (rest, mu') ∧ ds = accd ++ rest,
    ⟨xs.length, B1, th1, m1, [], [], ds, by omega, Nat.zero_le _, s1.skip nD, .skip nD, s1.ex.nn nD, s1.notin nD, upd_same, .nil, Nat.zero_le _, e, rfl⟩, ?_⟩
  rintro i m H2 ⟨B2, th2, m2, accd, acc, rest, rfl, hi, s2, f2, hb, ht, hD, hr, hle, hgo, rfl⟩
  by_cases hlt : i < xs.length
  · refine .inr ⟨it.go i H2 (f2.ex.trans s2.ex) hlt, _, fun H' z => ⟨xs.length - (i + 1), by omega, z⟩, fun x H' y => ?_⟩
    have hx : xs[i]? = some xs[i] := List.getElem?_eq_getElem hlt
    rw [List.drop_eq_getElem_cons hlt] at hgo
    obtain ⟨B3, s3, f3, r3⟩ := it.step f2.ex f2.pre s2 hx y
    have f13 := f2.trans f3
    obtain ⟨hD3, hb3, ht3⟩ := f3.no hD hb ht
    unfold lcGo at hgo
    split at hgo
    · cases hgo
    · rename_i rho1 hbind
      have srb : SR K B3 H' th2 m2 (wipeE rho own) (wipe sg own) := ((sr.fut s1 f1).fut s3 f13).wipe own
      obtain ⟨sg1, sr1, g1, w1⟩ := bind_sound hbind srb r3
      refine g1 _ ⟨by rw [w1 own hs, wipe_wipe], ?_⟩
      split at hgo
      · cases hgo
      · rename_i m3 ht1
        refine ⟨rho1, m2, false, m3, ht1, B3, th2, sr1, fun B4 H4 th4 s4 f4 => iteF ?_⟩
        obtain ⟨hD4, hb4, ht4⟩ := f4.no hD3 hb3 ht3
        exact ⟨B4, th4, m3, accd, acc, rest, rfl, hlt, s4, f13.trans f4, hb4, ht4, hD4, (hr.mono f3.ex f3.pre).mono f4.ex f4.pre, by omega, hgo, rfl⟩
      · rename_i m3 ht1
        split at hgo
        · cases hgo
        · rename_i d m4 he
          obtain ⟨d', m4', e5, e6⟩ := bdD_inv he
          cases e6
          split at hgo
          · cases hgo
          · rename_i rs m5 hrest
            cases hgo
            refine ⟨rho1, m2, true, m3, ht1, B3, th2, sr1, fun B4 H4 th4 s4 f4 => iteT ?_⟩
            obtain ⟨hD4, hb4, ht4⟩ := f4.no hD3 hb3 ht3
            refine ⟨rho1, m3, .dat d, m4, e5, B4, th4, sr1.fut s4 f4, fun v B5 H5 th5 s5 f5 r5 => ?_⟩
            obtain ⟨hD5, hb5, ht5⟩ := f5.no hD4 hb4 ht4
            have hr5 := ((hr.mono f3.ex f3.pre).mono f4.ex f4.pre).mono f5.ex f5.pre
            have hc : (cap : Nat) ≤ sizeLine := cap_le
            refine ⟨acc, hD5, by rw [hr.length]; omega, B5, th5, m4, accd ++ [d], acc ++ [v], rs, rfl, hlt, s5.mut hb5 ht5, ((f13.trans f4).trans f5).mut nD, hb5, ht5, upd_same, hr5.append (.cons r5 .nil), ?_, hrest, by simp⟩
            rw [List.length_append, List.length_singleton]
            omega
  · have e0 : i = xs.length := by omega
    subst e0
    rw [List.drop_length] at hgo
    cases hgo
    rw [List.append_nil] at q
    exact .inl ⟨it.stop _ H2 (f2.ex.trans s2.ex) (Nat.le_refl _), q D acc B2 H2 th2 s2 (f1.trans f2) (f1.dom D nD) hb ht hD hr⟩
theorem snd_lc {own : List (Str × Nat)} {tg : T} {it ifs elt : E} (Ii : Snd nm xa it) (Ff : Snd nm xa ifs) (Ee : Snd nm xa elt) : Snd nm xa (.lc own tg it ifs elt) := by
  refine Snd.ofF rfl rfl (fun {G rho mu mu' h} hv => ?_) (fun hx env wh => ?_) (fun {X N sc k G x rho mu mu' ds} hc hx hv => ?_)
  · obtain ⟨_, _, ds, _, _, _, rfl⟩ := ev_lc hv
    exact ⟨ds, rfl⟩
  · obtain ⟨y, t, i, fs, scope, pos, rfl, _⟩ := inv_lc hx
    rfl
  · obtain ⟨y, t, i, fs, scope, pos, rfl, h1, h2, h3, h4, h5, h6⟩ := inv_lc hx
    obtain ⟨xs, m1, ds', e1, e2, e3, e4⟩ := ev_lc hv
    cases e4
    have hN := hc.hN
    have hsc := hc.hsc
    refine pe_mono (pe_lc (own := own) (g := gT X.K tg) (tt := tTx X.K G ifs) (te := tVx X.K G elt) hc.calm (by rw [hN]; exact hc.nd) (Ii.i hc h1 (isTup_of h3) e1) (blkOk_by (by rw [hN, hsc]; exact h2)) (fun s H C cl fp => ?_) (fun s H C cl fp => ?_) (fun s H C cl fp => ?_) (mI_form h1 _)) (lc_read e2 h4 e3)
    · have hb := hc.blk s H scope C cl fp
      exact pg_of hb.hN hb.nd hb.hsc hb.calm (fun x hx => by rw [hb.hsc]; exact compOk_fn hx) h3
    · exact Ff.tx (hc.blk s H scope C cl fp) h5
    · exact Ee.vx (hc.blk s H scope C cl fp) h6
/-! ### isinstance -/
theorem inv_isi {N : List Str} {sc : Scope} {a : E} {kd : Kd} {x : Expr} (h : mE nm N sc (.isi a kd) x = true) : ∃ p y q pos, x = .Call (.Name "isinstance" p) [y, .Name (Str.ofString (kdName kd)) q] [] pos ∧ glB sc "isinstance" = true ∧ glB sc (Str.ofString (kdName kd)) = true ∧ mE nm N sc a y = true := by
  cases x with
  | Call fn xs ks pos =>
    cases fn with
    | Name y p =>
      match xs, ks, h with
      | [z, w], [], h =>
        cases w with
        | Name u q =>
          obtain ⟨h1, h5⟩ := and2 (show (decide (y = ("isinstance" : Str)) && glB sc y && decide (u = Str.ofString (kdName kd)) && glB sc u && mE nm N sc a z) = true from h)
          obtain ⟨h1, h4⟩ := and2 h1
          obtain ⟨h1, h3⟩ := and2 h1
          obtain ⟨h1, h2⟩ := and2 h1
          have e := of_decide_eq_true h1
          subst e
          have e' := of_decide_eq_true h3
          subst e'
          exact ⟨p, z, q, pos, rfl, h2, h4, h5⟩
        | _ => exact Bool.noConfusion (show false = true from h)
      | [], _, h => exact Bool.noConfusion (show false = true from h)
      | [_], _, h => exact Bool.noConfusion (show false = true from h)
      | [_, w], _ :: _, h => cases w <;> exact Bool.noConfusion (show false = true from h)
      | _ :: w :: _ :: _, _, h => cases w <;> exact Bool.noConfusion (show false = true from h)
    | _ => exact Bool.noConfusion (show false = true from h)
  | _ => exact Bool.noConfusion (show false = true from h)
def datTy : Dat → String
  | .non => "NoneType" | .bl _ => "bool" | .int _ => "int" | .str _ => "str" | .tup _ => "tuple" | .lst _ => "list" | .ref _ => "" | .fn _ => ""
def kdB (n : String) (k : Kd) : Bool := (n == kdName k) || (n == "bool" && kdName k == "int")
theorem kit_t1 : ∀ k, kitB "NoneType" (kdName k) = some (kdB "NoneType" k) := by intro k; cases k <;> decide +kernel
theorem kit_t2 : ∀ k, kitB "bool" (kdName k) = some (kdB "bool" k) := by intro k; cases k <;> decide +kernel
theorem kit_t3 : ∀ k, kitB "int" (kdName k) = some (kdB "int" k) := by intro k; cases k <;> decide +kernel
theorem kit_t4 : ∀ k, kitB "str" (kdName k) = some (kdB "str" k) := by intro k; cases k <;> decide +kernel
theorem kit_t5 : ∀ k, kitB "tuple" (kdName k) = some (kdB "tuple" k) := by intro k; cases k <;> decide +kernel
theorem kit_t6 : ∀ k, kitB "list" (kdName k) = some (kdB "list" k) := by intro k; cases k <;> decide +kernel
theorem isK_kit {d : Dat} {kd : Kd} {b : Bool} (h : isK d kd = some b) : kitB (datTy d) (kdName kd) = some b := by
  cases d with
  | non => cases kd <;> cases h <;> exact kit_t1 _
  | bl _ => cases kd <;> cases h <;> exact kit_t2 _
  | int _ => cases kd <;> cases h <;> exact kit_t3 _
  | str _ => cases kd <;> cases h <;> exact kit_t4 _
  | tup _ => cases kd <;> cases h <;> exact kit_t5 _
  | lst _ => cases kd <;> cases h <;> exact kit_t6 _
  | ref _ => cases kd <;> cases h
  | fn _ => cases kd <;> cases h
theorem sl_ty {K : PySem.W.Frag} {H : Hp} {a : Addr} {vs : List V} (h : SqL K H a vs) : TyX K H (.ref a) (.type "list") := by
  rcases h with (h | ⟨o, h⟩) | ⟨o, its, n, h1, h2, _⟩
  · exact .base (.lst h)
  · exact .base (.frz h)
  · exact .kList h1 h2
theorem rep_ty {K : PySem.W.Frag} {B H : Hp} {th : List Addr} {d : Dat} {v : V} {kd : Kd} {b : Bool} (r : Rep K B th d v) (e : Ex B H) (h : isK d kd = some b) : TyX K H v (.type (datTy d)) := by
  cases r with
  | non => exact .base .non
  | bl b => exact .base (.bl b)
  | int i => exact .base (.int i)
  | str x => exact .base (.str x)
  | tup h1 h2 => exact .base (.tup (e _ _ h1))
  | lst h1 h2 => exact sl_ty (e.sl h1)
  | ref h1 => cases kd <;> cases h
  | fn _ => cases kd <;> cases h
theorem kd_boot (kd : Kd) : bootBuiltins (Str.ofString (kdName kd)) = some (.type (kdName kd)) := by cases kd <;> decide +kernel
theorem kd_all (kd : Kd) : Str.ofString (kdName kd) ∈ bltAll := by cases kd <;> decide
theorem kd_nm (kd : Kd) : Str.ofString (kdName kd) ≠ ("__name__" : Str) ∧ (Str.ofString (kdName kd) == ("__debug__" : Str)) = false := by cases kd <;> exact ⟨by decide, by decide⟩
theorem isi_boot : bootBuiltins "isinstance" = some (.builtin "isinstance") := by decide +kernel
theorem snd_isi {a : E} {kd : Kd} (A : Snd nm xa a) : Snd nm xa (.isi a kd) := by
  refine Snd.ofP rfl rfl (fun {X N sc k G x rho mu mu' h} hc hx hv => ?_) (fun hx env wh => ?_) (fun _ h => no_fr h)
  · obtain ⟨p, y, q, pos, rfl, h1, h2, h3⟩ := inv_isi hx
    obtain ⟨d, m1, e1, e2⟩ := bdD_inv hv
    obtain ⟨d2, e3, e4⟩ := dn_inv e2
    cases z : isK d kd with
    | none => rw [z] at e3; cases e3
    | some b =>
      rw [z] at e3
      cases e3
      cases e4
      have PAx := pa_cons (A.v hc h3 e1) (pa_cons (pe_bltn (v := .ty (kdName kd)) (pos := q) (gl_of hc h2) (hc.g.bt _ (kd_all kd)) (kd_boot kd) rfl (kd_nm kd).1 (kd_nm kd).2) pa_nil) ((mE_form h3).1 _ _)
      exact pe_mono (pe_callB call_isi (gl_of hc h1) (hc.g.bt _ (by decide)) isi_boot PAx (by decide) (by decide) ((mE_form h3).1 _ _) rfl) fun sg H Q ⟨B, th, sr, g⟩ => ⟨B, th, sr, fun v B1 H1 th1 s1 f1 r1 =>
        ⟨v, .ty (kdName kd), _, _, b, rfl, .ty _, rep_ty r1 s1.ex z, kit_ty (isK_kit z), g _ B1 H1 th1 s1 f1 (.bl b)⟩⟩
  · obtain ⟨p, y, q, pos, rfl, _⟩ := inv_isi hx
    rfl
theorem inv_isiT {N : List Str} {sc : Scope} {a : E} {ks : List Kd} {x : Expr} (h : mE nm N sc (.isiT a ks) x = true) : ∃ p y zs j q pos, x = .Call (.Name "isinstance" p) [y, .Tuple zs j q] [] pos ∧ glB sc "isinstance" = true ∧ mKs sc ks zs = true ∧ mE nm N sc a y = true ∧ ks ≠ [] ∧ ks.length ≤ 100 := by
  cases x with
  | Call fn xs kw pos =>
    cases fn with
    | Name n p =>
      cases xs with
      | nil => exact Bool.noConfusion (show false = true from h)
      | cons y xs =>
      cases xs with
      | nil => exact Bool.noConfusion (show false = true from h)
      | cons z xs =>
      cases z with
      | Tuple zs j q =>
        cases xs with
        | cons _ _ => exact Bool.noConfusion (show false = true from h)
        | nil =>
        cases kw with
        | cons _ _ => exact Bool.noConfusion (show false = true from h)
        | nil =>
          obtain ⟨a1, h4⟩ := and2 (show (decide (n = ("isinstance" : Str)) && glB sc n && (!ks.isEmpty && decide (ks.length ≤ 100)) && mKs sc ks zs && mE nm N sc a y) = true from h)
          obtain ⟨a2, h3⟩ := and2 a1
          obtain ⟨a3, h5⟩ := and2 a2
          obtain ⟨h1, h2⟩ := and2 a3
          obtain ⟨h6, h7⟩ := and2 h5
          clear a1 a2 a3 h5 h
          have e := of_decide_eq_true h1
          subst e
          exact ⟨p, y, zs, j, q, pos, rfl, h2, h3, h4, (fun z => by rw [z] at h6; exact Bool.noConfusion h6), of_decide_eq_true h7⟩
      | _ => exact Bool.noConfusion (show false = true from h)
    | _ => exact Bool.noConfusion (show false = true from h)
  | _ => exact Bool.noConfusion (show false = true from h)
theorem pa_kds {X : Cx} {N : List Str} {sc : Scope} {k : Nat} {G : Gam} (hc : Ctx X N sc k G nm xa) : ∀ {ks : List Kd} {zs : List Expr}, mKs sc ks zs = true → PA X zs (fun σ H Q => Q (ks.map fun k => V.ty (kdName k)) H)
  | [], [], _ => pa_nil
  | [], _ :: _, h => Bool.noConfusion (show false = true from h)
  | _ :: _, [], h => Bool.noConfusion (show false = true from h)
  | kd :: ks, z :: zs, h => by
    cases z with
    | Name y p =>
      obtain ⟨a1, h3⟩ := and2 (show (decide (y = Str.ofString (kdName kd)) && glB sc y && mKs sc ks zs) = true from h)
      obtain ⟨h1, h2⟩ := and2 a1
      clear a1 h
      have e := of_decide_eq_true h1
      subst e
      exact pa_cons (pe_bltn (v := .ty (kdName kd)) (pos := p) (gl_of hc h2) (hc.g.bt _ (kd_all kd)) (kd_boot kd) rfl (kd_nm kd).1 (kd_nm kd).2) (pa_kds hc h3)
    | _ => exact Bool.noConfusion (show false = true from h)
theorem kds_any {K : PySem.W.Frag} {d : Dat} : ∀ {ks : List Kd} {b : Bool}, isKs d ks = some b → PySem.W.kitAny K (.type (datTy d)) (ks.map fun k => .type (kdName k)) = some b
  | [], b, h => by cases h; exact kitAny_nil
  | k :: ks, b, h => by
    have h' : (match isK d k with | some true => some true | some false => isKs d ks | none => none) = some b := h
    cases e : isK d k with
    | none => rw [e] at h'; cases h'
    | some c =>
      rw [e] at h'
      cases c with
      | true => cases h'; exact kitAny_cons (b := true) (kit_ty (isK_kit e)) (fun z => by cases z) (fun _ => rfl)
      | false => exact kitAny_cons (b := false) (kit_ty (isK_kit e)) (fun _ => kds_any h') (fun z => by cases z)
theorem kds_cls : ∀ ks : List Kd, Paired ClsV (ks.map fun k => V.ty (kdName k)) (ks.map fun k => Value.type (kdName k))
  | [] => .nil
  | k :: ks => .cons (.ty _) (kds_cls ks)
theorem snd_isiT {a : E} {ks : List Kd} (A : Snd nm xa a) : Snd nm xa (.isiT a ks) := by
  refine Snd.ofP rfl rfl (fun {X N sc k G x rho mu mu' h} hc hx hv => ?_) (fun hx env wh => ?_) (fun _ h => no_fr h)
  · obtain ⟨p, y, zs, j, q, pos, rfl, h1, h2, h3, h8, h9⟩ := inv_isiT hx
    obtain ⟨d, m1, e1, e2⟩ := bdD_inv hv
    obtain ⟨d2, e3, e4⟩ := dn_inv e2
    cases z : isKs d ks with
    | none => rw [z] at e3; cases e3
    | some b =>
      rw [z] at e3
      cases e3
      cases e4
      have hne : ∃ kd b', isK d kd = some b' := by
        cases ks with
        | nil => exact absurd rfl h8
        | cons k ks =>
          have h' : (match isK d k with | some true => some true | some false => isKs d ks | none => none) = some b := z
          cases e : isK d k with
          | none => rw [e] at h'; cases h'
          | some c => exact ⟨k, c, e⟩
      obtain ⟨kd, b', hkd⟩ := hne
      have PAx := pa_cons (A.v hc h3 e1) (pa_cons (pe_tup (x1 := j) (pos := q) (pa_kds hc h2)) pa_nil) ((mE_form h3).1 _ _)
      exact pe_mono (pe_callB call_isiT (gl_of hc h1) (hc.g.bt _ (by decide)) isi_boot PAx (by decide) (by decide) ((mE_form h3).1 _ _) rfl) fun sg H Q ⟨B, th, sr, g⟩ => ⟨B, th, sr, fun v B1 H1 th1 s1 f1 r1 =>
        ⟨Nat.le_trans (by rw [List.length_map]; exact h9) (by decide : 100 ≤ sizeLine), fun tp ntp => ⟨v, tp, _, _, _, b, rfl, upd_same, kds_cls ks, rep_ty r1 (s1.ex.updR (s1.ex.nn ntp)) hkd, kds_any z, g _ B1 _ th1 (s1.skip ntp) (f1.trans (.skip ntp)) (.bl b)⟩⟩⟩
  · obtain ⟨p, y, zs, j, q, pos, rfl, _⟩ := inv_isiT hx
    rfl
/-! ### ranges as values -/
theorem rgD_inv {f : List Dat → Dat} {x y d : Dat} (h : rgD f x y = some d) : ∃ i j, x = .int i ∧ y = .int j ∧ 0 ≤ i ∧ i ≤ cap ∧ 0 ≤ j ∧ j ≤ cap ∧ d = f (rangeD i (j - i).toNat) := by
  unfold rgD at h
  split at h
  · rename_i i j q1 q2
    split at h
    · rename_i g
      cases h
      exact ⟨i, j, isI_inv q1, isI_inv q2, g.1, g.2.1, g.2.2.1, g.2.2.2, rfl⟩
    · cases h
  · cases h
theorem rg_ok {i j : Int} (h0 : 0 ≤ i) (h1 : i ≤ cap) (h2 : 0 ≤ j) (h3 : j ≤ cap) : RgOk i j := by
  have e : cap = 1000000 := rfl
  rw [e] at h1 h3
  exact RgOk.of_le h0 (by omega) (by omega) h2
theorem rg_reps {K : PySem.W.Frag} {B : Hp} {th : List Addr} (i j : Int) : Reps K B th (rangeD i (j - i).toNat) (rgV i j) := by
  have q := Reps.ofInts (K := K) (B := B) (th := th) ((List.range (j - i).toNat).map fun n : Nat => i + (n : Int))
  rw [List.map_map, List.map_map] at q
  exact q
theorem rg1_inv {sc : Scope} {c z : Expr} (h : rg1 sc c = some z) : ∃ q pos, c = .Call (.Name "range" q) [z] [] pos ∧ glB sc "range" = true := by
  unfold rg1 at h
  split at h
  · split at h
    · rename_i g
      cases h
      obtain ⟨rfl, g2⟩ := g
      exact ⟨_, _, rfl, g2⟩
    · cases h
  · cases h
theorem rg2_inv {sc : Scope} {c : Expr} {z : Expr × Expr} (h : rg2 sc c = some z) : ∃ q pos, c = .Call (.Name "range" q) [z.1, z.2] [] pos ∧ glB sc "range" = true := by
  unfold rg2 at h
  split at h
  · split at h
    · rename_i g
      cases h
      obtain ⟨rfl, g2⟩ := g
      exact ⟨_, _, rfl, g2⟩
    · cases h
  · cases h
theorem inv_tR1 {N : List Str} {sc : Scope} {b : E} {x : Expr} (h : mE nm N sc (.tupR1 b) x = true) : ∃ p q z pos pos2, x = .Call (.Name "tuple" p) [.Call (.Name "range" q) [z] [] pos2] [] pos ∧ glB sc "tuple" = true ∧ glB sc "range" = true ∧ mE nm N sc b z = true := by
  cases x with
  | Call fn xs ks pos =>
    cases fn with
    | Name y p =>
      match xs, ks, h with
      | [c], [], h =>
        obtain ⟨h1, h3⟩ := and2 (show (decide (y = ("tuple" : Str)) && glB sc y && (match rg1 sc c with | some z => mE nm N sc b z | none => false)) = true from h)
        obtain ⟨h1, h2⟩ := and2 h1
        have e := of_decide_eq_true h1
        subst e
        split at h3
        · rename_i z hz
          obtain ⟨q, pos2, rfl, g⟩ := rg1_inv hz
          exact ⟨p, q, z, pos, pos2, rfl, h2, g, h3⟩
        · cases h3
      | [], _, h => exact Bool.noConfusion (show false = true from h)
      | [_], _ :: _, h => exact Bool.noConfusion (show false = true from h)
      | _ :: _ :: _, _, h => exact Bool.noConfusion (show false = true from h)
    | _ => exact Bool.noConfusion (show false = true from h)
  | _ => exact Bool.noConfusion (show false = true from h)
theorem rg3_inv {sc : Scope} {c : Expr} {z : Expr × Expr} (h : rg3 sc c = some z) : ∃ q j p pos, c = .Call (.Name "range" q) [z.1, z.2, .Constant (.int 2) j p] [] pos ∧ glB sc "range" = true := by
  unfold rg3 at h
  split at h
  · split at h
    · rename_i g
      cases h
      obtain ⟨rfl, g2, rfl⟩ := g
      exact ⟨_, _, _, _, rfl, g2⟩
    · cases h
  · cases h
theorem inv_tR3 {N : List Str} {sc : Scope} {a b : E} {x : Expr} (h : mE nm N sc (.tupR3 a b) x = true) : ∃ p q w z j p3 pos pos2, x = .Call (.Name "tuple" p) [.Call (.Name "range" q) [w, z, .Constant (.int 2) j p3] [] pos2] [] pos ∧ glB sc "tuple" = true ∧ glB sc "range" = true ∧ mE nm N sc a w = true ∧ mE nm N sc b z = true := by
  cases x with
  | Call fn xs ks pos =>
    cases fn with
    | Name y p =>
      match xs, ks, h with
      | [c], [], h =>
        obtain ⟨h1, h3⟩ := and2 (show (decide (y = ("tuple" : Str)) && glB sc y && (match rg3 sc c with | some (w, z) => mE nm N sc a w && mE nm N sc b z | none => false)) = true from h)
        obtain ⟨h1, h2⟩ := and2 h1
        have e := of_decide_eq_true h1
        subst e
        split at h3
        · rename_i w z hz
          obtain ⟨q, j, p3, pos2, rfl, g⟩ := rg3_inv hz
          obtain ⟨h4, h5⟩ := and2 h3
          exact ⟨p, q, w, z, j, p3, pos, pos2, rfl, h2, g, h4, h5⟩
        · cases h3
      | [], _, h => exact Bool.noConfusion (show false = true from h)
      | [_], _ :: _, h => exact Bool.noConfusion (show false = true from h)
      | _ :: _ :: _, _, h => exact Bool.noConfusion (show false = true from h)
    | _ => exact Bool.noConfusion (show false = true from h)
  | _ => exact Bool.noConfusion (show false = true from h)
theorem rg2D_inv {x y d : Dat} (h : rg2D x y = some d) : ∃ i j, x = .int i ∧ y = .int j ∧ 0 ≤ i ∧ i ≤ cap ∧ 0 ≤ j ∧ j ≤ cap ∧ d = .tup (range2D i j) := by
  unfold rg2D at h
  split at h
  · rename_i i j h1 h2
    split at h
    · rename_i g
      cases h
      cases x <;> cases h1
      cases y <;> cases h2
      exact ⟨i, j, rfl, rfl, g.1, g.2.1, g.2.2.1, g.2.2.2, rfl⟩
    · cases h
  · cases h
theorem inv_lR1 {N : List Str} {sc : Scope} {b : E} {x : Expr} (h : mE nm N sc (.lstR1 b) x = true) : ∃ p q z pos pos2, x = .Call (.Name "list" p) [.Call (.Name "range" q) [z] [] pos2] [] pos ∧ glB sc "list" = true ∧ glB sc "range" = true ∧ mE nm N sc b z = true := by
  cases x with
  | Call fn xs ks pos =>
    cases fn with
    | Name y p =>
      match xs, ks, h with
      | [c], [], h =>
        obtain ⟨h1, h3⟩ := and2 (show (decide (y = ("list" : Str)) && glB sc y && (match rg1 sc c with | some z => mE nm N sc b z | none => false)) = true from h)
        obtain ⟨h1, h2⟩ := and2 h1
        have e := of_decide_eq_true h1
        subst e
        split at h3
        · rename_i z hz
          obtain ⟨q, pos2, rfl, g⟩ := rg1_inv hz
          exact ⟨p, q, z, pos, pos2, rfl, h2, g, h3⟩
        · cases h3
      | [], _, h => exact Bool.noConfusion (show false = true from h)
      | [_], _ :: _, h => exact Bool.noConfusion (show false = true from h)
      | _ :: _ :: _, _, h => exact Bool.noConfusion (show false = true from h)
    | _ => exact Bool.noConfusion (show false = true from h)
  | _ => exact Bool.noConfusion (show false = true from h)
theorem inv_lR2 {N : List Str} {sc : Scope} {a b : E} {x : Expr} (h : mE nm N sc (.lstR2 a b) x = true) : ∃ p q w z pos pos2, x = .Call (.Name "list" p) [.Call (.Name "range" q) [w, z] [] pos2] [] pos ∧ glB sc "list" = true ∧ glB sc "range" = true ∧ mE nm N sc a w = true ∧ mE nm N sc b z = true := by
  cases x with
  | Call fn xs ks pos =>
    cases fn with
    | Name y p =>
      match xs, ks, h with
      | [c], [], h =>
        obtain ⟨h1, h3⟩ := and2 (show (decide (y = ("list" : Str)) && glB sc y && (match rg2 sc c with | some (w, z) => mE nm N sc a w && mE nm N sc b z | none => false)) = true from h)
        obtain ⟨h1, h2⟩ := and2 h1
        have e := of_decide_eq_true h1
        subst e
        split at h3
        · rename_i w z hz
          obtain ⟨q, pos2, rfl, g⟩ := rg2_inv hz
          obtain ⟨h4, h5⟩ := and2 h3
          exact ⟨p, q, w, z, pos, pos2, rfl, h2, g, h4, h5⟩
        · cases h3
      | [], _, h => exact Bool.noConfusion (show false = true from h)
      | [_], _ :: _, h => exact Bool.noConfusion (show false = true from h)
      | _ :: _ :: _, _, h => exact Bool.noConfusion (show false = true from h)
    | _ => exact Bool.noConfusion (show false = true from h)
  | _ => exact Bool.noConfusion (show false = true from h)
theorem snd_tupR1 {b : E} (Bb : Snd nm xa b) : Snd nm xa (.tupR1 b) := by
  refine Snd.ofP rfl rfl (fun {X N sc k G x rho mu mu' h} hc hx hv => ?_) (fun hx env wh => ?_) (fun _ h => no_fr h)
  · obtain ⟨p, q, z, pos, pos2, rfl, h1, h2, h3⟩ := inv_tR1 hx
    obtain ⟨d, m1, e1, e2⟩ := bdD_inv hv
    obtain ⟨d2, e3, e4⟩ := dn_inv e2
    obtain ⟨i, j, e5, rfl, g1, g2, g3, g4, rfl⟩ := rgD_inv e3
    cases e5
    cases e4
    exact pe_mono (pe_tupRg hc.calm (gl_of hc h1) (hc.g.bt _ (by decide)) (prg_1 (gl_of hc h2) (hc.g.bt _ (by decide)) (Bb.v hc h3 e1) ((mE_form h3).1 _ _)) rfl) fun sg H Q ⟨B, th, sr, q⟩ => ⟨B, th, sr, fun v B1 H1 th1 s1 f1 r1 => by
      cases r1
      exact ⟨j, rfl, rg_ok (Int.le_refl 0) g2 g3 g4, fun a n => GoV.tup s1 (GoV.at q f1) (rg_reps 0 j) n⟩⟩
  · obtain ⟨p, q, z, pos, pos2, rfl, _⟩ := inv_tR1 hx
    rfl
theorem snd_tupR3 {a b : E} (A : Snd nm xa a) (Bb : Snd nm xa b) : Snd nm xa (.tupR3 a b) := by
  refine Snd.ofP rfl rfl (fun {X N sc k G x rho mu mu' h} hc hx hv => ?_) (fun hx env wh => ?_) (fun _ h => no_fr h)
  · obtain ⟨p, q, u, z, jj, p3, pos, pos2, rfl, h1, h2, h3, h4⟩ := inv_tR3 hx
    obtain ⟨d1, m1, e1, e2⟩ := bdD_inv hv
    obtain ⟨d2, m2, e3, e4⟩ := bdD_inv e2
    obtain ⟨d3, e5, e6⟩ := dn_inv e4
    obtain ⟨i, j, rfl, rfl, g1, g2, g3, g4, rfl⟩ := rg2D_inv e5
    cases e6
    have hcap : (cap : Int) ≤ 10 ^ 6 := by decide
    refine pe_mono (pe_tupRg3 hc.calm (gl_of hc h1) (hc.g.bt _ (by decide)) (gl_of hc h2) (hc.g.bt _ (by decide)) (pa_cons (A.v hc h3 e1) (pa_cons (Bb.v hc h4 e3) (pa_cons pe_int pa_nil) ((mE_form h4).1 _ _)) ((mE_form h3).1 _ _)) ((mE_form h3).1 _ _) (by rw [(mE_form h4).1]; rfl)) fun sg H Q ⟨B, th, sr, q⟩ => ⟨B, th, sr, fun v B1 H1 th1 s1 f1 r1 => ⟨B1, th1, sr.fut s1 f1, fun v2 B2 H2 th2 s2 f2 r2 => ?_⟩⟩
    cases r1
    cases r2
    refine ⟨i, j, 2, _, rfl, rgC2 g1 (by omega) g3 (by omega), ?_, fun a n => GoV.tup s2 (GoV.at q (f1.trans f2)) ?_ n⟩
    · split <;> omega
    · unfold range2D
      have q := Reps.ofInts (K := X.K) (B := B2) (th := th2) ((List.range (if i < j then ((j - i - 1) / 2 + 1).toNat else 0)).map fun k => i + (k : Nat) * 2)
      rw [List.map_map, List.map_map] at q
      exact q
  · obtain ⟨p, q, u, z, jj, p3, pos, pos2, rfl, _⟩ := inv_tR3 hx
    rfl
theorem snd_lstR1 {b : E} (Bb : Snd nm xa b) : Snd nm xa (.lstR1 b) := by
  refine Snd.ofF rfl rfl (fun {G rho mu mu' h} hv => ?_) (fun hx env wh => ?_) (fun {X N sc k G x rho mu mu' ds} hc hx hv => ?_)
  · obtain ⟨d, m1, e1, e2⟩ := bdD_inv hv
    obtain ⟨d2, e3, e4⟩ := dn_inv e2
    obtain ⟨i, j, e5, rfl, g1, g2, g3, g4, rfl⟩ := rgD_inv e3
    cases e4
    exact ⟨_, rfl⟩
  · obtain ⟨p, q, z, pos, pos2, rfl, _⟩ := inv_lR1 hx
    rfl
  · obtain ⟨p, q, z, pos, pos2, rfl, h1, h2, h3⟩ := inv_lR1 hx
    obtain ⟨d, m1, e1, e2⟩ := bdD_inv hv
    obtain ⟨d2, e3, e4⟩ := dn_inv e2
    obtain ⟨i, j, e5, rfl, g1, g2, g3, g4, rfl⟩ := rgD_inv e3
    cases e5
    cases e4
    exact pe_mono (pe_listRg hc.calm (gl_of hc h1) (hc.g.bt _ (by decide)) (prg_1 (gl_of hc h2) (hc.g.bt _ (by decide)) (Bb.v hc h3 e1) ((mE_form h3).1 _ _)) rfl) fun sg H Q ⟨B, th, sr, q⟩ => ⟨B, th, sr, fun v B1 H1 th1 s1 f1 r1 => by
      cases r1
      exact ⟨j, rfl, rg_ok (Int.le_refl 0) g2 g3 g4, fun a n => GoF.lst s1 (GoF.at q f1) (rg_reps 0 j) n⟩⟩
theorem snd_lstR2 {a b : E} (A : Snd nm xa a) (Bb : Snd nm xa b) : Snd nm xa (.lstR2 a b) := by
  refine Snd.ofF rfl rfl (fun {G rho mu mu' h} hv => ?_) (fun hx env wh => ?_) (fun {X N sc k G x rho mu mu' ds} hc hx hv => ?_)
  · obtain ⟨d0, m0, e0, e00⟩ := bdD_inv hv
    obtain ⟨d, m1, e1, e2⟩ := bdD_inv e00
    obtain ⟨d2, e3, e4⟩ := dn_inv e2
    obtain ⟨i, j, e5, rfl, g1, g2, g3, g4, rfl⟩ := rgD_inv e3
    cases e4
    exact ⟨_, rfl⟩
  · obtain ⟨p, q, w, z, pos, pos2, rfl, _⟩ := inv_lR2 hx
    rfl
  · obtain ⟨p, q, w, z, pos, pos2, rfl, h1, h2, h3, h4⟩ := inv_lR2 hx
    obtain ⟨d0, m0, e0, e00⟩ := bdD_inv hv
    obtain ⟨d, m1, e1, e2⟩ := bdD_inv e00
    obtain ⟨d2, e3, e4⟩ := dn_inv e2
    obtain ⟨i, j, rfl, rfl, g1, g2, g3, g4, rfl⟩ := rgD_inv e3
    cases e4
    exact pe_mono (pe_listRg hc.calm (gl_of hc h1) (hc.g.bt _ (by decide)) (prg_2 (gl_of hc h2) (hc.g.bt _ (by decide)) (A.v hc h3 e0) (Bb.v hc h4 e1) (by rw [(mE_form h3).1]) (by rw [(mE_form h4).1]) (by rw [(mE_form h4).1]; rfl)) rfl) fun sg H Q ⟨B, th, sr, q⟩ => ⟨B, th, sr, fun v B1 H1 th1 s1 f1 r1 => ⟨B1, th1, sr.fut s1 f1, fun v2 B2 H2 th2 s2 f2 r2 => by
      cases r1
      cases r2
      exact ⟨i, j, rfl, rfl, rg_ok g1 g2 g3 g4, fun a n => GoF.lst s2 (GoF.at q (f1.trans f2)) (rg_reps i j) n⟩⟩⟩
/-! ### t[::-1], sorted(set(t)) -/
theorem inv_revT {N : List Str} {sc : Scope} {a : E} {x : Expr} (h : mE nm N sc (.revT a) x = true) : ∃ y j p1 p2 p3 pos, x = .Subscript y (.Slice none none (some (.UnaryOp .USub (.Constant (.int 1) j p1) p2)) p3) pos ∧ mE nm N sc a y = true := by
  cases x with
  | Subscript y z pos =>
    cases z with
    | Slice l u st p =>
      cases l with
      | some _ => exact Bool.noConfusion (show false = true from h)
      | none =>
        cases u with
        | some _ => exact Bool.noConfusion (show false = true from h)
        | none =>
          cases st with
          | none => exact Bool.noConfusion (show false = true from h)
          | some s =>
            cases s with
            | UnaryOp o c p2 =>
              cases o with
              | USub =>
                cases c with
                | Constant c j p1 =>
                  cases c with
                  | int n =>
                    obtain ⟨h1, h2⟩ := and2 (show (decide (n = 1) && mE nm N sc a y) = true from h)
                    have e := of_decide_eq_true h1
                    subst e
                    exact ⟨y, j, p1, p2, p, pos, rfl, h2⟩
                  | _ => exact Bool.noConfusion (show false = true from h)
                | _ => exact Bool.noConfusion (show false = true from h)
              | _ => exact Bool.noConfusion (show false = true from h)
            | _ => exact Bool.noConfusion (show false = true from h)
    | _ => exact Bool.noConfusion (show false = true from h)
  | _ => exact Bool.noConfusion (show false = true from h)
theorem snd_revT {a : E} (A : Snd nm xa a) : Snd nm xa (.revT a) := by
  refine Snd.ofP rfl rfl (fun {X N sc k G x rho mu mu' h} hc hx hv => ?_) (fun hx env wh => ?_) (fun _ h => no_fr h)
  · obtain ⟨y, j, p1, p2, p3, pos, rfl, h1⟩ := inv_revT hx
    obtain ⟨d, m1, e1, e2⟩ := bdD_inv hv
    cases d with
    | tup ds =>
      cases e2
      exact pe_mono (pe_revT (A.v hc h1 e1)) fun sg H Q ⟨B, th, sr, g⟩ => ⟨B, th, sr, fun v B1 H1 th1 s1 f1 r1 => by
        cases r1 with
        | tup g1 g2 => exact ⟨_, _, rfl, .inl (.inl (s1.ex _ _ g1)), fun p n => (GoV.at (mu' := mu') (d := .tup ds.reverse) g f1).tup s1 g2.reverse n⟩⟩
    | _ => cases e2
  · obtain ⟨y, j, p1, p2, p3, pos, rfl, _⟩ := inv_revT hx
    rfl
theorem inv_sset {N : List Str} {sc : Scope} {a : E} {x : Expr} (h : mE nm N sc (.sset a) x = true) : ∃ p q z pos pos2, x = .Call (.Name "sorted" p) [.Call (.Name "set" q) [z] [] pos2] [] pos ∧ glB sc "sorted" = true ∧ glB sc "set" = true ∧ mE nm N sc a z = true := by
  cases x with
  | Call fn xs ks pos =>
    cases fn with
    | Name y p =>
      cases xs with
      | nil => exact Bool.noConfusion (show false = true from h)
      | cons c xs =>
        cases c with
        | Call f2 ys k2 pos2 =>
          cases f2 with
          | Name u q =>
            cases ys with
            | nil => exact Bool.noConfusion (show false = true from h)
            | cons z ys =>
              cases ys with
              | cons _ _ => exact Bool.noConfusion (show false = true from h)
              | nil =>
                cases k2 with
                | cons _ _ => exact Bool.noConfusion (show false = true from h)
                | nil =>
                  cases xs with
                  | cons _ _ => exact Bool.noConfusion (show false = true from h)
                  | nil =>
                    cases ks with
                    | cons _ _ => exact Bool.noConfusion (show false = true from h)
                    | nil =>
                      obtain ⟨h1, h5⟩ := and2 (show (decide (y = ("sorted" : Str)) && glB sc y && decide (u = ("set" : Str)) && glB sc u && mE nm N sc a z) = true from h)
                      obtain ⟨h1, h4⟩ := and2 h1
                      obtain ⟨h1, h3⟩ := and2 h1
                      obtain ⟨h1, h2⟩ := and2 h1
                      have e := of_decide_eq_true h1
                      have e' := of_decide_eq_true h3
                      subst e e'
                      exact ⟨p, q, z, pos, pos2, rfl, h2, h4, h5⟩
          | _ => exact Bool.noConfusion (show false = true from h)
        | _ => exact Bool.noConfusion (show false = true from h)
    | _ => exact Bool.noConfusion (show false = true from h)
  | _ => exact Bool.noConfusion (show false = true from h)
theorem set_boot : bootBuiltins "set" = some (.type "set") := by decide +kernel
theorem snd_sset {a : E} (A : Snd nm xa a) : Snd nm xa (.sset a) := by
  refine Snd.ofP rfl rfl (fun {X N sc k G x rho mu mu' h} hc hx hv => ?_) (fun hx env wh => ?_) (fun _ h => no_fr h)
  · obtain ⟨p, q, z, pos, pos2, rfl, h1, h2, h3⟩ := inv_sset hx
    obtain ⟨d, m1, e1, e2⟩ := bdD_inv hv
    cases d with
    | tup ds =>
      have e3 : (match ints? ds with | some ns => if ns.length ≤ 1000 ∧ (setI ns).length < 64 then some (Hd.dat (.lst ((setI ns).map .int)), m1) else none | none => none) = some (h, mu') := e2
      split at e3
      · rename_i ns hns
        split at e3
        · rename_i hl
          cases e3
          have PS := pe_callTy (pos := pos2) (p := q) (cr_setT hc.calm) (gl_of hc h2) (hc.g.bt _ (by decide)) set_boot (pa_cons (A.v hc h3 e1) pa_nil ((mE_form h3).1 _ _)) (by decide) (by decide) ((mE_form h3).1 _ _) rfl
          have PAx := pa_cons PS pa_nil rfl
          refine pe_mono (pe_callB (pos := pos) (p := p) (cr_sortedSet hc.calm) (gl_of hc h1) (hc.g.bt _ (by decide)) bn_sorted PAx (by decide) (by decide) rfl rfl) fun sg H Q ⟨B, th, sr, g⟩ => ⟨B, th, sr, fun v B1 H1 th1 s1 f1 r1 => ?_⟩
          cases r1 with
          | tup g1 g2 =>
            rw [ints?_some hns] at g2
            rw [g2.ints] at g1
            refine ⟨_, ns, rfl, .inl (.inl (s1.ex _ _ g1)), hl.1, fun qa nq => ?_⟩
            refine ⟨qa, fun j => decide (j ∈ ns), (setI ns).length, rfl, upd_same, hl.2, fun ns' p' hs hm hlen np => ?_⟩
            have e : ns' = setI ns := up_eq hs (setI_up ns) fun x => by rw [hm x, decide_eq_true_eq, mem_setI]
            rw [e]
            have s2 := s1.skip (o := SetO X.w qa (fun j => decide (j ∈ ns)) (setI ns).length) nq
            exact ((GoV.fresh (show GoV X.K B H th mu' (.lst ((setI ns).map .int)) Q from g)).at (f1.trans (.skip nq))).lst s2 (Reps.ofInts _) np
        · cases e3
      · cases e3
    | lst ds =>
      have e3 : (match ints? ds with | some ns => if ns.length ≤ 1000 ∧ (setI ns).length < 64 then some (Hd.dat (.lst ((setI ns).map .int)), m1) else none | none => none) = some (h, mu') := e2
      split at e3
      · rename_i ns hns
        split at e3
        · rename_i hl
          cases e3
          have PS := pe_callTy (pos := pos2) (p := q) (cr_setL hc.calm) (gl_of hc h2) (hc.g.bt _ (by decide)) set_boot (pa_cons (A.v hc h3 e1) pa_nil ((mE_form h3).1 _ _)) (by decide) (by decide) ((mE_form h3).1 _ _) rfl
          have PAx := pa_cons PS pa_nil rfl
          refine pe_mono (pe_callB (pos := pos) (p := p) (cr_sortedSet hc.calm) (gl_of hc h1) (hc.g.bt _ (by decide)) bn_sorted PAx (by decide) (by decide) rfl rfl) fun sg H Q ⟨B, th, sr, g⟩ => ⟨B, th, sr, fun v B1 H1 th1 s1 f1 r1 => ?_⟩
          cases r1 with
          | lst g1 g2 =>
            rw [ints?_some hns] at g2
            rw [g2.ints] at g1
            refine ⟨_, ns, rfl, s1.ex.sl g1, hl.1, fun qa nq => ?_⟩
            refine ⟨qa, fun j => decide (j ∈ ns), (setI ns).length, rfl, upd_same, hl.2, fun ns' p' hs hm hlen np => ?_⟩
            have e : ns' = setI ns := up_eq hs (setI_up ns) fun x => by rw [hm x, decide_eq_true_eq, mem_setI]
            rw [e]
            have s2 := s1.skip (o := SetO X.w qa (fun j => decide (j ∈ ns)) (setI ns).length) nq
            exact ((GoV.fresh (show GoV X.K B H th mu' (.lst ((setI ns).map .int)) Q from g)).at (f1.trans (.skip nq))).lst s2 (Reps.ofInts _) np
        · cases e3
      · cases e3
    | _ => cases e2
  · obtain ⟨p, q, z, pos, pos2, rfl, _⟩ := inv_sset hx
    rfl
theorem inv_lzip {N : List Str} {sc : Scope} {a b : E} {x : Expr} (h : mE nm N sc (.lzip a b) x = true) : ∃ p q u v pos pos2, x = .Call (.Name "list" p) [.Call (.Name "zip" q) [u, v] [] pos2] [] pos ∧ glB sc "list" = true ∧ glB sc "zip" = true ∧ mE nm N sc a u = true ∧ mE nm N sc b v = true := by
  cases x with
  | Call fn xs ks pos =>
    cases fn with
    | Name y p =>
      cases xs with
      | nil => exact Bool.noConfusion (show false = true from h)
      | cons c xs =>
        cases c with
        | Call f2 ys k2 pos2 =>
          cases f2 with
          | Name w q =>
            cases ys with
            | nil => exact Bool.noConfusion (show false = true from h)
            | cons u ys =>
              cases ys with
              | nil => exact Bool.noConfusion (show false = true from h)
              | cons v ys =>
                cases ys with
                | cons _ _ => exact Bool.noConfusion (show false = true from h)
                | nil =>
                  cases k2 with
                  | cons _ _ => exact Bool.noConfusion (show false = true from h)
                  | nil =>
                    cases xs with
                    | cons _ _ => exact Bool.noConfusion (show false = true from h)
                    | nil =>
                      cases ks with
                      | cons _ _ => exact Bool.noConfusion (show false = true from h)
                      | nil =>
                        obtain ⟨h1, h6⟩ := and2 (show (decide (y = ("list" : Str)) && glB sc y && decide (w = ("zip" : Str)) && glB sc w && mE nm N sc a u && mE nm N sc b v) = true from h)
                        obtain ⟨h1, h5⟩ := and2 h1
                        obtain ⟨h1, h4⟩ := and2 h1
                        obtain ⟨h1, h3⟩ := and2 h1
                        obtain ⟨h1, h2⟩ := and2 h1
                        have e := of_decide_eq_true h1
                        have e' := of_decide_eq_true h3
                        subst e e'
                        exact ⟨p, q, u, v, pos, pos2, rfl, h2, h4, h5, h6⟩
          | _ => exact Bool.noConfusion (show false = true from h)
        | _ => exact Bool.noConfusion (show false = true from h)
    | _ => exact Bool.noConfusion (show false = true from h)
  | _ => exact Bool.noConfusion (show false = true from h)
theorem zipD_of {xs ys : List Dat} {i : Nat} {x y : Dat} (hx : xs[i]? = some x) (hy : ys[i]? = some y) : (zipD xs ys)[i]? = some (.tup [x, y]) := by
  induction xs generalizing ys i with
  | nil => simp at hx
  | cons a xs ih =>
    cases ys with
    | nil => simp at hy
    | cons b ys =>
      cases i with
      | zero =>
        simp at hx hy
        rw [hx, hy]
        rfl
      | succ i => exact ih (by simpa using hx) (by simpa using hy)
/-- the pairs stand for the pairs -/
theorem zipH_rep {K : PySem.W.Frag} {B H : Hp} {th : List Addr} {mu : Store} {xs ys : List Dat} {vs us : List V} (s : SRc K B H th mu) (r : Reps K B th xs vs) (r2 : Reps K B th ys us) {Ts : List Addr} {H' : Hp} (z : ZipH H vs us Ts H') :
    ∃ B', SRc K B' H' th mu ∧ Fut B H th B' H' th ∧ Ex B B' ∧ Reps K B' th ((zipD xs ys).take Ts.length) (Ts.map V.ref) := by
  induction z with
  | nil => exact ⟨B, s, .refl _ _ _, .refl _, .nil⟩
  | @snoc Ts H1 T x y z hx hy n ih =>
    obtain ⟨B', s', f', e', rr⟩ := ih
    obtain ⟨dx, h1, q1⟩ := r.get' hx
    obtain ⟨dy, h2, q2⟩ := r2.get' hy
    have en : Ex B' (upd B' T (.tup [x, y])) := Ex.new (s'.ex.nn n)
    refine ⟨upd B' T (.tup [x, y]), s'.new n, f'.trans (.new s'.ex n), e'.trans en, ?_⟩
    have hz := zipD_of h1 h2
    rw [List.length_append, List.length_singleton, List.take_add_one, hz, List.map_append]
    exact (rr.mono en (List.prefix_refl _)).append (.cons (.tup upd_same (.cons (q1.mono (e'.trans en) (List.prefix_refl _)) (.cons (q2.mono (e'.trans en) (List.prefix_refl _)) .nil))) .nil)
theorem zipD_ln : ∀ (xs ys : List Dat), (zipD xs ys).length = min xs.length ys.length
  | [], _ => by simp [zipD]
  | _ :: _, [] => by simp [zipD]
  | x :: xs, y :: ys => by
    show (zipD xs ys).length + 1 = _
    rw [zipD_ln xs ys, List.length_cons, List.length_cons]
    omega
theorem snd_lzip {a b : E} (A : Snd nm xa a) (Bb : Snd nm xa b) : Snd nm xa (.lzip a b) := by
  refine Snd.ofP rfl rfl (fun {X N sc k G x rho mu mu' h} hc hx hv => ?_) (fun hx env wh => ?_) (fun _ h => no_fr h)
  · obtain ⟨p, q, u, v, pos, pos2, rfl, h1, h2, h3, h4⟩ := inv_lzip hx
    obtain ⟨d, m1, e1, e2⟩ := bdD_inv hv
    obtain ⟨d', m2, e3, e4⟩ := bdD_inv e2
    cases d with
    | tup xs =>
      cases d' with
      | tup ys =>
        have e5 : (if xs.length ≤ cap then some (Hd.dat (.lst (zipD xs ys)), m2) else none) = some (h, mu') := e4
        split at e5
        · rename_i hl
          cases e5
          have PAx := pa_cons (A.v hc h3 e1) (pa_cons (Bb.v hc h4 e3) pa_nil ((mE_form h4).1 _ _)) ((mE_form h3).1 _ _)
          refine pe_mono (pe_listZip (p := p) (p2 := q) (q := pos2) (pos := pos) hc.calm (gl_of hc h1) (hc.g.bt _ (by decide)) (gl_of hc h2) (hc.g.bt _ (by decide)) PAx ((mE_form h3).1 _ _) (by rw [(mE_form h4).1]; rfl)) fun sg H Q ⟨B, th, sr, g⟩ => ⟨B, th, sr, fun v B1 H1 th1 s1 f1 r1 => ⟨B1, th1, sr.fut s1 f1, fun v2 B2 H2 th2 s2 f2 r2 => ?_⟩⟩
          have r1' := r1.fut f2
          cases r1' with
          | tup a1 a2 =>
            cases r2 with
            | tup b1 b2 =>
              refine ⟨_, _, _, _, rfl, .inl (.inl (s2.ex _ _ a1)), .inl (.inl (s2.ex _ _ b1)), ?_, fun Ts H' qa hZ hlen hn => ?_⟩
              · rw [a2.length]
                have : cap ≤ sizeLine := by decide
                omega
              · obtain ⟨B', s', f', e', rr⟩ := zipH_rep s2 a2 b2 hZ
                rw [List.take_of_length_le (by rw [zipD_ln, hlen, a2.length, b2.length]; exact Nat.le_refl _)] at rr
                exact ((GoV.fresh (show GoV X.K B H th mu' (.lst (zipD xs ys)) Q from g)).at ((f1.trans f2).trans f')).lst s' rr hn
        · cases e5
      | _ => cases e4
    | _ => cases e4
  · obtain ⟨p, q, u, v, pos, pos2, rfl, _⟩ := inv_lzip hx
    rfl
theorem inv_dgt {N : List Str} {sc : Scope} {d k z : E} {x : Expr} (h : mE nm N sc (.dgt d k z) x = true) : ∃ y yp pa u v pc, x = .Call (.Attribute (.Name y yp) "get" pa) [u, v] [] pc ∧ (pa.endLine == pc.line) = true ∧ mE nm N sc d (.Name y yp) = true ∧ mE nm N sc k u = true ∧ mE nm N sc z v = true := by
  cases x with
  | Call fn xs ks pos =>
    cases fn with
    | Attribute o n pa =>
      cases o with
      | Name y yp =>
        cases xs with
        | nil => exact Bool.noConfusion (show false = true from h)
        | cons u xs =>
          cases xs with
          | nil => exact Bool.noConfusion (show false = true from h)
          | cons v xs =>
            cases xs with
            | cons _ _ => exact Bool.noConfusion (show false = true from h)
            | nil =>
              cases ks with
              | cons _ _ => exact Bool.noConfusion (show false = true from h)
              | nil =>
                obtain ⟨h1, h5⟩ := and2 (show (decide (n = ("get" : Str)) && (pa.endLine == pos.line) && mE nm N sc d (.Name y yp) && mE nm N sc k u && mE nm N sc z v) = true from h)
                obtain ⟨h1, h4⟩ := and2 h1
                obtain ⟨h1, h3⟩ := and2 h1
                obtain ⟨h1, h2⟩ := and2 h1
                have e := of_decide_eq_true h1
                subst e
                exact ⟨y, yp, pa, u, v, pos, rfl, h2, h3, h4, h5⟩
      | _ => exact Bool.noConfusion (show false = true from h)
    | _ => exact Bool.noConfusion (show false = true from h)
  | _ => exact Bool.noConfusion (show false = true from h)
theorem isD_of {K : PySem.W.Frag} {B H : Hp} {th : List Addr} {mu : Store} {rho : Env} {sg : L2.St} {h : Hd} {v : V} (s : SR K B H th mu rho sg) (r : RepH K B th sg h v) (e : (dicOf rho mu h).isSome = true) : ∃ a, v = .ref a ∧ IsD H a := by
  cases q : dicOf rho mu h with
  | none => rw [q] at e; cases e
  | some p =>
    obtain ⟨t, kvs⟩ := p
    obtain ⟨a, rfl, ⟨_, ws, h1, _⟩ | ⟨_, ws, h1, _⟩⟩ := dicOf_sound s r q
    · exact ⟨a, rfl, .inl ⟨ws, .inl h1⟩⟩
    · exact ⟨a, rfl, .inr ⟨ws, .inl h1⟩⟩
theorem snd_dgt {d k z : E} (A : Snd nm xa d) (Kk : Snd nm xa k) (Zz : Snd nm xa z) : Snd nm xa (.dgt d k z) := by
  refine Snd.ofP rfl rfl (fun {X N sc kk G x rho mu mu' h} hc hx hv => ?_) (fun hx env wh => ?_) (fun _ h => no_fr h)
  · obtain ⟨y, yp, pa, u, v, pc, rfl, hl, h1, h2, h3⟩ := inv_dgt hx
    obtain ⟨d1, m1, e1, e2⟩ := bd_inv hv
    split at e2
    · rename_i hs
      obtain ⟨d2, m2, e3, e4⟩ := bdD_inv e2
      obtain ⟨d3, m3, e5, e6⟩ := bdD_inv e4
      obtain ⟨r, e7, e8⟩ := dn_inv e6
      cases e8
      unfold dgetZ at e7
      split at e7
      · rename_i t kvs q1
        split at e7
        · rename_i hk
          cases e7
          have s1 : ∀ env, starEach [u, v] env = [(false, eval u env), (false, eval v env)] := fun env => by rw [(mE_form h2).1, (mE_form h3).1]; rfl
          have M : M2 X (.Name y yp) "get" pa u v pc := ⟨rfl, by rw [s1]; rfl, hl, by rw [s1]; rfl⟩
          refine pe_mono (pe_dget2 (hu_of hc.room) (A.v hc h1 e1) (Kk.v hc h2 e3) (Zz.v hc h3 e5) M) fun sg H Q ⟨B, th, sr, q⟩ => ⟨B, th, sr, fun v1 B1 H1 th1 s1 f1 r1 => ?_⟩
          obtain ⟨a, rfl, hD⟩ := isD_of (sr.fut s1 f1) r1 hs
          refine ⟨a, rfl, hD, B1, th1, sr.fut s1 f1, fun v2 B2 H2 th2 s2 f2 r2 => ⟨B2, th2, (sr.fut s1 f1).fut s2 f2, fun v3 B3 H3 th3 s3 f3 r3 => ?_⟩⟩
          have r2' := r2.fut f3
          obtain ⟨a', o, ea, g, w | ⟨d', z', w1, w2, w3⟩⟩ := dict_get (((sr.fut s1 f1).fut s2 f2).fut s3 f3) ((r1.fut f2).fut f3) r2' q1 hk
          · cases ea
            refine ⟨o, g, ?_⟩
            rw [w.2]
            refine q v3 B3 H3 th3 s3 ((f1.trans f2).trans f3) ?_
            rw [w.1]
            exact r3
          · cases ea
            refine ⟨o, g, ?_⟩
            rw [w2]
            refine q z' B3 H3 th3 s3 ((f1.trans f2).trans f3) ?_
            rw [w1]
            exact w3
        · cases e7
      · cases e7
    · cases e2
  · obtain ⟨y, yp, pa, u, v, pc, rfl, _⟩ := inv_dgt hx
    rfl
/-! ### the class Editor -/
/-- a new object becomes a cell -/
theorem SRc.cellNewM {K : PySem.W.Frag} {B H : Hp} {th : List Addr} {mu : Store} {p : Addr} {c : Cell} {o : HO} (s : SRc K B H th mu) (hb : B p = none) (hp : p ∉ th) (hl : H p = some o) (co : CellOk K B th c o) : SRc K B H (th ++ [p]) (mu ++ [c]) where
  ex := s.ex
  len := by rw [List.length_append, List.length_append, s.len]; rfl
  cell := fun n x hn => by
    by_cases z : n < mu.length
    · rw [List.getElem?_append_left z] at hn
      obtain ⟨a, u, h1, h2, h3, h4⟩ := s.cell n x hn
      exact ⟨a, u, by rw [List.getElem?_append_left (by rw [s.len]; exact z)]; exact h1, h2, h3, h4.mono (Ex.refl _) (List.prefix_append _ _)⟩
    · have l := (List.getElem?_eq_some_iff.mp hn).1
      rw [List.length_append, List.length_singleton] at l
      have e : n = mu.length := by omega
      subst e
      rw [List.getElem?_append_right (Nat.le_refl _), Nat.sub_self] at hn
      cases hn
      exact ⟨p, o, by rw [← s.len, List.getElem?_append_right (Nat.le_refl _), Nat.sub_self]; rfl, hb, hl, co.mono (Ex.refl _) (List.prefix_append _ _)⟩
  nd := by
    rw [List.nodup_append]
    exact ⟨s.nd, by simp, fun a ha b hb => by
      simp at hb; subst hb
      exact fun z => hp (z ▸ ha)⟩
theorem Fut.cellNewM {B0 H0 B H : Hp} {th0 th : List Addr} {p : Addr} (f : Fut B0 H0 th0 B H th) (h : H0 p = none) : Fut B0 H0 th0 B H (th ++ [p]) where
  ex := f.ex
  pre := f.pre.trans (List.prefix_append _ _)
  fr := f.fr
  nw := fun a ha => by
    rcases List.mem_append.mp ha with z | z
    · exact f.nw a z
    · simp at z; subst z; exact .inr h
  bn := f.bn
  dom := f.dom
  tp := f.tp
theorem inv_fld {N : List Str} {sc : Scope} {a : E} {x : Expr} (h : mE nm N sc (.fld a) x = true) : ∃ y yp pos, x = .Attribute (.Name y yp) "states" pos ∧ mE nm N sc a (.Name y yp) = true := by
  cases x with
  | Attribute o n pos =>
    cases o with
    | Name y yp =>
      obtain ⟨h1, h2⟩ := and2 (show (decide (n = ("states" : Str)) && mE nm N sc a (.Name y yp)) = true from h)
      have e := of_decide_eq_true h1
      subst e
      exact ⟨y, yp, pos, rfl, h2⟩
    | _ => exact Bool.noConfusion (show false = true from h)
  | _ => exact Bool.noConfusion (show false = true from h)
theorem fldD_inv {G : Gam} {mu : Store} {d r : Dat} (h : fldD G mu d = some r) : ∃ n m, d = .ref n ∧ mu[n]? = some (.ins (some m)) ∧ G.ed = true ∧ r = .ref m := by
  cases d with
  | ref n =>
    replace h : (match mu[n]? with | some (.ins (some m)) => if G.ed = true then some (Dat.ref m) else none | _ => none) = some r := h
    split at h
    · rename_i m q
      split at h
      · rename_i he
        cases h
        exact ⟨n, m, rfl, q, he, rfl⟩
      · cases h
    · cases h
  | _ => cases h
theorem insB_inv {mu : Store} {d : Dat} (h : insB mu d = true) : ∃ n f, d = .ref n ∧ mu[n]? = some (.ins f) := by
  cases d with
  | ref n =>
    replace h : (match mu[n]? with | some (.ins _) => true | _ => false) = true := h
    split at h
    · rename_i f q
      exact ⟨n, f, rfl, q⟩
    · cases h
  | _ => cases h
/-- an instance in the heap -/
theorem ins_at {K : PySem.W.Frag} {B H : Hp} {th : List Addr} {mu : Store} {n : Nat} {f : Option Nat} {v : V} (s : SRc K B H th mu) (hn : mu[n]? = some (.ins f)) (r : Rep K B th (.ref n) v) :
    ∃ a C dx fs, v = .ref a ∧ th[n]? = some a ∧ EdC K C ∧ H a = some (.ins C dx fs) ∧ ((f = none ∧ fs = []) ∨ ∃ m l, f = some m ∧ th[m]? = some l ∧ fs = [((("states" : Str)), V.ref l)]) := by
  cases r with
  | ref h1 =>
    obtain ⟨a', o, h2, h3, h4, h5⟩ := s.cell n _ hn
    rw [h1] at h2
    cases h2
    cases h5 with
    | ins0 c => exact ⟨_, _, _, _, rfl, h1, c, h4, .inl ⟨rfl, rfl⟩⟩
    | ins1 c q => exact ⟨_, _, _, _, rfl, h1, c, h4, .inr ⟨_, _, rfl, q, rfl⟩⟩
theorem snd_fld {a : E} (A : Snd nm xa a) : Snd nm xa (.fld a) := by
  refine Snd.ofP rfl rfl (fun {X N sc k G x rho mu mu' h} hc hx hv => ?_) (fun hx env wh => ?_) (fun _ h => no_fr h)
  · obtain ⟨y, yp, pos, rfl, h1⟩ := inv_fld hx
    obtain ⟨d, m1, e1, e2⟩ := bdD_inv hv
    obtain ⟨r, e3, e4⟩ := dn_inv e2
    cases e4
    obtain ⟨n, m, rfl, q1, q2, rfl⟩ := fldD_inv e3
    refine pe_mono (pe_fld (A.v hc h1 e1) rfl) fun sg H Q ⟨B, th, sr, q⟩ => ⟨B, th, sr, fun v B1 H1 th1 s1 f1 r1 => ?_⟩
    obtain ⟨a, C, dx, fs, rfl, g1, g2, g3, ⟨z, _⟩ | ⟨m', l, z, g4, rfl⟩⟩ := ins_at s1 q1 r1
    · cases z
    · cases z
      obtain ⟨c1, c2, _⟩ := hc.g.ed q2 C g2
      exact ⟨a, C, dx, _, .ref l, rfl, g3, c1, c2, rfl, q _ B1 H1 th1 s1 f1 (.ref g4)⟩
  · obtain ⟨y, yp, pos, rfl, _⟩ := inv_fld hx
    rfl
theorem inv_meth {N : List Str} {sc : Scope} {o as : E} {m : Nat} {x : Expr} (h : mE nm N sc (.meth o m as) x = true) : ∃ y yp pa xs pos, x = .Call (.Attribute (.Name y yp) (mName m) pa) xs [] pos ∧ (pa.endLine == pos.line) = true ∧ mE nm N sc o (.Name y yp) = true ∧ mEs nm N sc as xs = true := by
  cases x with
  | Call fn xs ks pos =>
    cases fn with
    | Attribute u n pa =>
      cases u with
      | Name y yp =>
        cases ks with
        | cons _ _ => exact Bool.noConfusion (show false = true from h)
        | nil =>
          obtain ⟨h1, h3⟩ := and2 (show (decide (n = mName m) && (pa.endLine == pos.line) && mE nm N sc o (.Name y yp) && mEs nm N sc as xs) = true from h)
          obtain ⟨h1, h2⟩ := and2 h1
          obtain ⟨h1, h4⟩ := and2 h1
          have e := of_decide_eq_true h1
          subst e
          exact ⟨y, yp, pa, xs, pos, rfl, h4, h2, h3⟩
      | _ => exact Bool.noConfusion (show false = true from h)
    | _ => exact Bool.noConfusion (show false = true from h)
  | _ => exact Bool.noConfusion (show false = true from h)
theorem methD_inv {G : Gam} {m : Nat} {ds : List Dat} {mu mu' : Store} {h : Hd} (e : methD G m ds mu = some (h, mu')) : ∃ F d, m ≠ 0 ∧ m < 9 ∧ ds.length = mAr m ∧ G.me m = some F ∧ F ds mu = some (.ok d mu') ∧ h = .dat d := by
  unfold methD at e
  split at e
  · rename_i hl
    split at e
    · rename_i F hF
      split at e
      · rename_i d m hr
        cases e
        exact ⟨F, d, hl.1, hl.2.1, hl.2.2, hF, hr, rfl⟩
      · cases e
    · cases e
  · cases e
theorem mName_ne {m : Nat} (h : m < 9) : (mName m == ("states" : Str)) = false := by
  match m, h with
  | 0, _ => decide
  | 1, _ => decide
  | 2, _ => decide
  | 3, _ => decide
  | 4, _ => decide
  | 5, _ => decide
  | 6, _ => decide
  | 7, _ => decide
  | 8, _ => decide
theorem mEs_len {G : Gam} {N : List Str} {sc : Scope} {rho : Env} : ∀ {xs : List Expr} {e : E} {mu mu' : Store} {ds : List Dat}, mEs nm N sc e xs = true → evA G e rho mu = some (ds, mu') → xs.length = ds.length
  | [], e, mu, mu', ds, h, q => by
    rw [mEs_nil h] at q
    cases q
    rfl
  | x :: xs, e, mu, mu', ds, h, q => by
    obtain ⟨a, r, rfl, h1, h2⟩ := mEs_cons h
    obtain ⟨d, m1, q1, q2⟩ := bdD_inv (show bdD (ev G a rho mu) (fun d mu1 => bd (evA G r rho mu1) fun ds mu2 => some (d :: ds, mu2)) = some (ds, mu') from q)
    obtain ⟨es, m2, q3, q4⟩ := bd_inv q2
    cases q4
    rw [List.length_cons, List.length_cons, mEs_len h2 q3]
theorem eval_meth {y n : Str} {yp pa pos : Pos} {xs : List Expr} {env : PySem.Env} (hl : (pa.endLine == pos.line) = true) (hp : (backTo pos (starEach xs env)).any (·.1) = false) (hx : xs.length < 30) : eval (.Call (.Attribute (.Name y yp) n pa) xs [] pos) env = (do
      let ov ← eval (.Name y yp) env
      standAt pa.atName
      let (f, first) ← holding [ov] (getMethod ov n (do return (← importBound (.Name y yp) env).getD true))
      callWith pos f first (backTo pos (starEach xs env)) (backToKw pos (keywordEach [] env))) := by
  have few : methodCallForm (xs.length + ([] : List Keyword).length) (backTo pos (starEach xs env)) (backToKw pos (keywordEach [] env)) = true := by
    have h1 : (backTo pos (starEach xs env)).all (!·.1) = true := by
      rw [List.all_eq_true]
      intro z hz
      have := List.any_eq_false.mp hp z hz
      cases e : z.1 with
      | true => exact absurd e this
      | false => rfl
    unfold methodCallForm
    rw [h1]
    show (true && true && decide (xs.length + 0 + 0 < 30)) = true
    simp
    omega
  show (do
    let ov ← eval (.Name y yp) env
    standAt pa.atName
    methodCall (.Name y yp) n pa pos env ov (xs.length + ([] : List Keyword).length) (backTo pos (starEach xs env)) (backToKw pos (keywordEach [] env))) = _
  unfold methodCall calleeOf methodCallPos
  rw [few, hl]
  rfl
theorem snd_meth {o as : E} {m : Nat} (O : Snd nm xa o) (A : Snd nm xa as) : Snd nm xa (.meth o m as) := by
  refine Snd.ofP rfl rfl (fun {X N sc k G x rho mu mu' h} hc hx hv => ?_) (fun hx env wh => ?_) (fun _ h => no_fr h)
  · obtain ⟨y, yp, pa, xs, pos, rfl, hln, h1, h2⟩ := inv_meth hx
    obtain ⟨d, m1, e1, e2⟩ := bdD_inv hv
    split at e2
    · rename_i hb
      obtain ⟨ds, m2, e3, e4⟩ := bd_inv e2
      obtain ⟨F, d', n0, n9, hl, hF, hr, rfl⟩ := methD_inv e4
      obtain ⟨C, a, fd, ps, j, g1, g2, g3, g4, g5⟩ := hc.g.me m F hF
      rw [if_neg n0] at g2
      obtain ⟨c1, c2, c3⟩ := hc.g.ed (hc.g.em m F hF) C g1
      obtain ⟨n, f, rfl, q1⟩ := insB_inv hb
      have g5 := g5.mono g2.2
      have fs0 : ∀ {fs : List (Str × V)} {th : List Addr}, ((f = none ∧ fs = []) ∨ ∃ m l, f = some m ∧ th[m]? = some l ∧ fs = [((("states" : Str)), V.ref l)]) → fs.lookup (mName m) = none := fun {fs th} z => by
        rcases z with ⟨_, rfl⟩ | ⟨_, _, _, _, rfl⟩
        · rfl
        · show (match (mName m == ("states" : Str)) with | true => some (V.ref _) | false => none) = none
          rw [mName_ne n9]
      cases xs with
      | nil =>
        have ha := mEs_nil h2
        subst ha
        cases e3
        have hev := eval_meth (y := y) (yp := yp) (n := mName m) (xs := []) (env := X.env) hln rfl (by decide)
        refine pe_mono (pe_meth0 (O.v hc h1 e1) c1 g2.1 g5 hc.room g3 .nil passL hev) fun sg H Q ⟨B, th, sr, q⟩ => ⟨B, th, sr, fun v B1 H1 th1 s1 f1 r1 => ?_⟩
        obtain ⟨b, C', dx, fs, rfl, y1, y2, y3, y4⟩ := ins_at s1 q1 r1
        have := g1.eq y2
        subst this
        exact ⟨b, dx, fs, rfl, y3, fs0 y4, hl, B1, th1, _, [.ref n], _, s1, .cons r1 .nil, hr, fun v B2 H2 th2 s2 f2 r2 => q v B2 H2 th2 s2 (f1.trans f2) r2⟩
      | cons z zs =>
        obtain ⟨a', r', rfl, h4, h5⟩ := mEs_cons h2
        have hxl : (z :: zs).length < 30 := by
          have := mEs_len h2 e3
          have h5 : mAr m ≤ 4 := by
            match m, n9 with
            | 0, _ => decide
            | 1, _ => decide
            | 2, _ => decide
            | 3, _ => decide
            | 4, _ => decide
            | 5, _ => decide
            | 6, _ => decide
            | 7, _ => decide
            | 8, _ => decide
          rw [List.length_cons] at hl
          omega
        have hev := eval_meth (y := y) (yp := yp) (n := mName m) (xs := z :: zs) (env := X.env) hln (by rw [(mE_form h4).1]; exact mEs_plain h5) hxl
        refine pe_mono (pe_meth (O.v hc h1 e1) c1 g2.1 g5 hc.room g3 .nil passL (A.a hc h2 e3) ((mE_form h4).1 _ _) (mEs_plain h5) hev) fun sg H Q ⟨B, th, sr, q⟩ => ⟨B, th, sr, fun v B1 H1 th1 s1 f1 r1 => ?_⟩
        obtain ⟨b, C', dx, fs, rfl, y1, y2, y3, y4⟩ := ins_at s1 q1 r1
        have := g1.eq y2
        subst this
        refine ⟨b, dx, fs, rfl, y3, fs0 y4, B1, th1, sr.fut s1 f1, fun vs B2 H2 th2 s2 f2 r2 => ?_⟩
        show spOf X.K xa (mAr m) F (.ref b :: (vs ++ [])) H2 Q E0
        rw [List.append_nil]
        refine ⟨by rw [List.length_cons, r2.length]; exact hl, B2, th2, m2, .ref n :: ds, _, s2, .cons (Rep.mono f2.ex f2.pre r1) r2, hr, fun v B3 H3 th3 s3 f3 r3 => q v B3 H3 th3 s3 ((f1.trans f2).trans f3) r3⟩
    · cases e2
  · obtain ⟨y, yp, pa, xs, pos, rfl, _⟩ := inv_meth hx
    rfl
theorem inv_new {N : List Str} {sc : Scope} {as : E} {x : Expr} (h : mE nm N sc (.new as) x = true) : ∃ p xs pos, x = .Call (.Name "Editor" p) xs [] pos ∧ glB sc "Editor" = true ∧ xs ≠ [] ∧ mEs nm N sc as xs = true := by
  cases x with
  | Call fn xs ks pos =>
    cases fn with
    | Name y p =>
      cases ks with
      | cons _ _ => exact Bool.noConfusion (show false = true from h)
      | nil =>
        obtain ⟨h1, h4⟩ := and2 (show (decide (y = ("Editor" : Str)) && glB sc y && !xs.isEmpty && mEs nm N sc as xs) = true from h)
        obtain ⟨h1, h3⟩ := and2 h1
        obtain ⟨h1, h2⟩ := and2 h1
        have e := of_decide_eq_true h1
        subst e
        refine ⟨p, xs, pos, rfl, h2, fun z => ?_, h4⟩
        rw [z] at h3
        cases h3
    | _ => exact Bool.noConfusion (show false = true from h)
  | _ => exact Bool.noConfusion (show false = true from h)
theorem newD_inv {G : Gam} {ds : List Dat} {mu mu' : Store} {h : Hd} (e : newD G ds mu = some (h, mu')) : ∃ F, ds.length + 1 = mAr 0 ∧ G.me 0 = some F ∧ F (.ref mu.length :: ds) (mu ++ [.ins none]) = some (.ok .non mu') ∧ h = .dat (.ref mu.length) := by
  unfold newD at e
  split at e
  · rename_i hl
    split at e
    · rename_i F hF
      split at e
      · rename_i m hr
        cases e
        exact ⟨F, hl, hF, hr, rfl⟩
      · cases e
    · cases e
  · cases e
theorem snd_new {as : E} (A : Snd nm xa as) : Snd nm xa (.new as) := by
  refine Snd.ofP rfl rfl (fun {X N sc k G x rho mu mu' h} hc hx hv => ?_) (fun hx env wh => ?_) (fun _ h => no_fr h)
  · obtain ⟨p, xs, pos, rfl, h1, hne, h2⟩ := inv_new hx
    obtain ⟨ds, m1, e1, e2⟩ := bd_inv hv
    obtain ⟨F, hl, hF, hr, rfl⟩ := newD_inv e2
    obtain ⟨C, a, fd, ps, j, g1, g2, g3, g4, g5⟩ := hc.g.me 0 F hF
    rw [if_pos rfl] at g2
    obtain ⟨c1, c2, c3⟩ := hc.g.ed (hc.g.em 0 F hF) C g1
    cases xs with
    | nil => exact absurd rfl hne
    | cons z zs =>
      obtain ⟨a', r', rfl, h4, h5⟩ := mEs_cons h2
      refine pe_mono (pe_make g2.1 g5 (hc.room.mono g2.2) (gl_of hc h1) c3 g3 .nil passL (A.a hc h2 e1) (by decide) ((mE_form h4).1 _ _) (mEs_plain h5)) fun sg H Q ⟨B, th, sr, q⟩ => ⟨B, th, sr, fun vs B1 H1 th1 s1 f1 r1 y dx ny nd hne => ?_⟩
      have t1 : SRc X.K B1 (upd H1 dx (.own y)) th1 m1 := s1.skip nd
      have ny' : upd H1 dx (.own y) y = none := by rw [upd_ne (fun z => hne z.symm)]; exact ny
      have t2 : SRc X.K B1 (upd (upd H1 dx (.own y)) y (.ins C dx [])) th1 m1 := t1.skip ny'
      have t3 := SRc.cellNewM t2 (s1.ex.nn ny) (s1.notin ny) upd_same (.ins0 g1)
      have ff : Fut B H th B1 (upd (upd H1 dx (.own y)) y (.ins C dx [])) (th1 ++ [y]) := Fut.cellNewM ((f1.trans (.skip nd)).trans (.skip ny')) (f1.dom y ny)
      have hlen : th1[m1.length]? = none := by rw [List.getElem?_eq_none]; rw [s1.len]; exact Nat.le_refl _
      have hr0 : Rep X.K B1 (th1 ++ [y]) (.ref m1.length) (.ref y) := .ref (by rw [← s1.len, List.getElem?_append_right (Nat.le_refl _), Nat.sub_self]; rfl)
      show spOf X.K xa (mAr 0) F (.ref y :: (vs ++ [])) _ _ E0
      rw [List.append_nil]
      refine ⟨by rw [List.length_cons, r1.length]; exact hl, B1, th1 ++ [y], m1 ++ [.ins none], .ref m1.length :: ds, _, t3, .cons hr0 (r1.mono (Ex.refl _) (List.prefix_append _ _)), hr, fun v B2 H2 th2 s2 f2 r2 => ?_⟩
      cases r2
      exact ⟨rfl, q _ B2 H2 th2 s2 (ff.trans f2) (Rep.mono f2.ex f2.pre hr0)⟩
  · obtain ⟨p, xs, pos, rfl, _⟩ := inv_new hx
    rfl
/-- every expression -/
theorem sound (nm : Nms) (xa : Nat → Addr) : ∀ e : E, Snd nm xa e
  | .var i => snd_var i
  | .int i => snd_int i
  | .bl b => snd_bl b
  | .non => snd_non
  | .str x => snd_str x
  | .glob g => snd_glob g
  | .anil => snd_anil
  | .acons a r => snd_acons (sound nm xa a) (sound nm xa r)
  | .tup a => snd_tup (sound nm xa a)
  | .lst a => snd_lst (sound nm xa a)
  | .op o a b => snd_op (sound nm xa a) (sound nm xa b)
  | .neg a => snd_neg (sound nm xa a)
  | .rep a b => snd_rep (sound nm xa a) (sound nm xa b)
  | .cmp o a b => snd_cmp (sound nm xa a) (sound nm xa b)
  | .chain o p a b c => snd_chain (sound nm xa a) (sound nm xa b) (sound nm xa c)
  | .and a => snd_and (sound nm xa a)
  | .or a => snd_or (sound nm xa a)
  | .not a => snd_not (sound nm xa a)
  | .ite c a b => snd_ite (sound nm xa c) (sound nm xa a) (sound nm xa b)
  | .ix a i => snd_ix (sound nm xa a) (sound nm xa i)
  | .slc a b c => snd_slc (sound nm xa a) (sound nm xa b) (sound nm xa c)
  | .call f a => snd_call (sound nm xa a)
  | .blt b a => snd_blt (sound nm xa a)
  | .lc own tg it ifs elt => snd_lc (sound nm xa it) (sound nm xa ifs) (sound nm xa elt)
  | .items a => snd_items (sound nm xa a)
  | .range1 a => snd_range1 (sound nm xa a)
  | .range2 a b => snd_range2 (sound nm xa a) (sound nm xa b)
  | .zip a b => snd_zip (sound nm xa a) (sound nm xa b)
  | .enum a => snd_enum (sound nm xa a)
  | .isi a k => snd_isi (sound nm xa a)
  | .isiT a ks => snd_isiT (sound nm xa a)
  | .revT a => snd_revT (sound nm xa a)
  | .sset a => snd_sset (sound nm xa a)
  | .lzip a b => snd_lzip (sound nm xa a) (sound nm xa b)
  | .fld a => snd_fld (sound nm xa a)
  | .meth o m as => snd_meth (sound nm xa o) (sound nm xa as)
  | .new as => snd_new (sound nm xa as)
  | .dgt d k z => snd_dgt (sound nm xa d) (sound nm xa k) (sound nm xa z)
  | .tupR1 b => snd_tupR1 (sound nm xa b)
  | .tupR3 a b => snd_tupR3 (sound nm xa a) (sound nm xa b)
  | .lstR1 b => snd_lstR1 (sound nm xa b)
  | .lstR2 a b => snd_lstR2 (sound nm xa a) (sound nm xa b)
end
end Lin

set_option maxHeartbeats 1000000
/-! Lin, part N: states of a def under way; what is stored, what is changed. -/
namespace Lin
open PySem PySem.Spec PyProof.Rows L2

/-- a def under way: entered at (B0, H0, th0) -/
structure SS (K : PySem.W.Frag) (Bk : Hp) (tk : List Addr) (B0 H0 : Hp) (th0 : List Addr) (B H : Hp) (th : List Addr) (mu : Store) (rho : Env) (sg : L2.St) : Prop extends SR K B H th mu rho sg where
  fut : Fut B0 H0 th0 B H th
  fresh : ∀ (j : Nat) (c : Cell) (a : Addr), rho[j]? = some (some (.own c)) → sg[j]? = some (some (.ref a)) → H0 a = none
  kp : Ex Bk B
  kt : tk <+: th
section
variable {K : PySem.W.Frag} {Bk : Hp} {tk : List Addr} {B0 H0 B B' H H' : Hp} {th0 th th' : List Addr} {mu mu' : Store} {rho rho' : Env} {sg sg' : L2.St} {h : Hd} {v : V}
theorem SS.step (s : SS K Bk tk B0 H0 th0 B H th mu rho sg) (c : SRc K B' H' th' mu') (f : Fut B H th B' H' th') : SS K Bk tk B0 H0 th0 B' H' th' mu' rho sg where
  toSR := s.toSR.fut c f
  fut := s.fut.trans f
  fresh := s.fresh
  kp := s.kp.trans f.ex
  kt := s.kt.trans f.pre

mutual
theorem bind_own : ∀ {t : T} {d : Dat} {rho rho' : Env} {j : Nat} {c : Cell}, bindT t d rho = some rho' → rho'[j]? = some (some (.own c)) → j ∉ t.slots ∧ rho[j]? = some (some (.own c))
  | .nm i, d, rho, rho', j, c, h, e => by
    cases h
    by_cases z : i = j
    · subst z
      rw [List.getElem?_set] at e
      simp only [if_true] at e
      split at e <;> cases e
    · rw [List.getElem?_set_ne z] at e
      exact ⟨fun m => z (List.mem_singleton.mp m).symm, e⟩
  | .tup a, d, rho, rho', j, c, h, e => by
    cases d with
    | tup ds => exact binds_own (t := a) (ds := ds) h e
    | _ => cases h
  | .nil, d, rho, rho', j, c, h, e => by cases d <;> cases h
  | .cons _ _, d, rho, rho', j, c, h, e => by cases d <;> cases h
theorem binds_own : ∀ {t : T} {ds : List Dat} {rho rho' : Env} {j : Nat} {c : Cell}, bindTs t ds rho = some rho' → rho'[j]? = some (some (.own c)) → j ∉ t.slots ∧ rho[j]? = some (some (.own c))
  | .nil, ds, rho, rho', j, c, h, e => by
    cases ds with
    | nil => cases h; exact ⟨fun m => by simp [T.slots] at m, e⟩
    | cons _ _ => cases h
  | .cons a t, ds, rho, rho', j, c, h, e => by
    cases ds with
    | nil => cases h
    | cons d ds =>
      have h' : (match bindT a d rho with | some rho1 => bindTs t ds rho1 | none => none) = some rho' := h
      split at h'
      · rename_i rho1 e1
        obtain ⟨g1, g2⟩ := binds_own h' e
        obtain ⟨g3, g4⟩ := bind_own e1 g2
        exact ⟨fun m => (List.mem_append.mp m).elim g3 g1, g4⟩
      · cases h'
  | .nm _, ds, rho, rho', j, c, h, e => by cases ds <;> cases h
  | .tup _, ds, rho, rho', j, c, h, e => by cases ds <;> cases h
end
theorem SS.bind {t : T} {d : Dat} (s : SS K Bk tk B0 H0 th0 B H th mu rho sg) (r : Rep K B th d v) (e : bindT t d rho = some rho') :
    ∃ sg', SS K Bk tk B0 H0 th0 B H th mu rho' sg' ∧ ∀ Q : L2.St → Hp → Prop, Q sg' H → gT K t v sg H Q := by
  obtain ⟨sg', s', q, w⟩ := bind_sound e s.toSR r
  refine ⟨sg', ⟨s', s.fut, fun j c a h1 h2 => ?_, s.kp, s.kt⟩, q⟩
  obtain ⟨g1, g2⟩ := bind_own e h1
  refine s.fresh j c a g2 ?_
  have w' := congrArg (fun l : L2.St => l[j]?) (w t.slots fun _ m => m)
  simp only [wipe_get, if_neg g1] at w'
  rw [← w']
  exact h2

/-- a value for a slot; an own object is new since H0 -/
def StV (K : PySem.W.Frag) (H0 B H : Hp) (th : List Addr) : Slot → V → Prop
  | .dat d, v => Rep K B th d v
  | .own c, v => ∃ a o, v = .ref a ∧ H0 a = none ∧ B a = none ∧ a ∉ th ∧ H a = some o ∧ CellOk K B th c o
theorem StV.fut {s : Slot} (r : StV K H0 B H th s v) (f : Fut B H th B' H' th') : StV K H0 B' H' th' s v := by
  cases s with
  | dat d => exact Rep.mono f.ex f.pre r
  | own c =>
    obtain ⟨a, o, e, h0, hb, ht, hl, co⟩ := r
    obtain ⟨g1, g2, g3⟩ := f.no hl hb ht co.notup
    exact ⟨a, o, e, h0, g2, g3, g1, co.mono f.ex f.pre⟩
/-- v is no own slot's object -/
def NoOwn (rho : Env) (sg : L2.St) (s : Slot) (v : V) : Prop := ∀ c, s = .own c → ∀ (j : Nat) (c' : Cell), rho[j]? = some (some (.own c')) → sg[j]? ≠ some (some v)
theorem SR.setS {Hx : Hp} {i : Nat} {x : Slot} (s : SR K B H th mu rho sg) (r : StV K Hx B H th x v) (n : NoOwn rho sg x v) : SR K B H th mu (rho.set i (some x)) (sg.set i (some v)) := by
  cases x with
  | dat d => exact s.setD r
  | own c =>
    obtain ⟨a, o, rfl, h0, hb, ht, hl, co⟩ := r
    have key : ∀ {j : Nat} {y : Slot}, (rho.set i (some (Slot.own c)))[j]? = some (some y) → (i = j ∧ y = .own c ∧ (sg.set i (some (.ref a)))[j]? = some (some (.ref a))) ∨ (i ≠ j ∧ rho[j]? = some (some y) ∧ (sg.set i (some (.ref a)))[j]? = sg[j]?) := fun {j y} h => by
      by_cases e : i = j
      · subst e
        have hl : i < rho.length := by
          have := (List.getElem?_eq_some_iff.mp h).1
          rwa [List.length_set] at this
        rw [List.getElem?_set_self hl] at h
        cases h
        exact .inl ⟨rfl, rfl, List.getElem?_set_self (by rw [← s.sl]; exact hl)⟩
      · rw [List.getElem?_set_ne e] at h
        exact .inr ⟨e, h, List.getElem?_set_ne e⟩
    refine ⟨s.toSRc, by rw [List.length_set, List.length_set]; exact s.sl, fun j d h => ?_, fun j c' h => ?_, fun j k c1 c2 b h1 h2 h3 h4 => ?_⟩
    · rcases key h with ⟨_, e, _⟩ | ⟨_, g, e⟩
      · cases e
      · rw [e]; exact s.dat j d g
    · rcases key h with ⟨_, e, e2⟩ | ⟨_, g, e⟩
      · cases e
        exact ⟨a, o, e2, hb, ht, hl, co⟩
      · rw [e]; exact s.own j c' g
    · rcases key h1 with ⟨i1, e1, g1⟩ | ⟨i1, e1, g1⟩
      · rcases key h2 with ⟨i2, e2, g2⟩ | ⟨i2, e2, g2⟩
        · rw [← i1, ← i2]
        · rw [g1] at h3; cases h3
          rw [g2] at h4
          exact absurd h4 (n c rfl k c2 e2)
      · rcases key h2 with ⟨i2, e2, g2⟩ | ⟨i2, e2, g2⟩
        · rw [g2] at h4; cases h4
          rw [g1] at h3
          exact absurd h3 (n c rfl j c1 e1)
        · rw [g1] at h3; rw [g2] at h4
          exact s.apart j k c1 c2 b e1 e2 h3 h4
theorem SS.setS {Hx : Hp} {i : Nat} {x : Slot} (s : SS K Bk tk B0 H0 th0 B H th mu rho sg) (r : StV K Hx B H th x v) (n : NoOwn rho sg x v) (hx : ∀ a, Hx a = none → H0 a = none) : SS K Bk tk B0 H0 th0 B H th mu (rho.set i (some x)) (sg.set i (some v)) where
  toSR := s.toSR.setS r n
  fut := s.fut
  kp := s.kp
  kt := s.kt
  fresh := fun j c a h1 h2 => by
    by_cases e : i = j
    · subst e
      have hl : i < rho.length := by
        have := (List.getElem?_eq_some_iff.mp h1).1
        rwa [List.length_set] at this
      rw [List.getElem?_set_self hl] at h1
      rw [List.getElem?_set_self (by rw [← s.sl]; exact hl)] at h2
      cases h1
      cases h2
      obtain ⟨b, o, e, h0, _⟩ := r
      cases e
      exact hx _ h0
    · rw [List.getElem?_set_ne e] at h1 h2
      exact s.fresh j c a h1 h2
/-- an object new since H is no own slot's of a state over H -/
theorem SR.noOwn {x : Slot} (s : SR K B H th mu rho sg) (r : StV K H B' H' th' x v) : NoOwn rho sg x v := fun c e j c' hj hs => by
  subst e
  obtain ⟨a, o, rfl, h0, _⟩ := r
  obtain ⟨a', o', g1, _, _, g4, _⟩ := s.own j c' hj
  rw [hs] at g1
  cases g1
  rw [h0] at g4
  cases g4

theorem nodup_at {a : Addr} : ∀ {l : List Addr} {n m : Nat}, l.Nodup → l[n]? = some a → l[m]? = some a → n = m
  | [], _, _, _, h, _ => by simp at h
  | b :: l, 0, 0, _, _, _ => rfl
  | b :: l, 0, m + 1, nd, h1, h2 => by
    have e : b = a := by simpa using h1
    subst e
    exact absurd (List.mem_of_getElem? (by simpa using h2 : l[m]? = some b)) (List.nodup_cons.mp nd).1
  | b :: l, n + 1, 0, nd, h1, h2 => by
    have e : b = a := by simpa using h2
    subst e
    exact absurd (List.mem_of_getElem? (by simpa using h1 : l[n]? = some b)) (List.nodup_cons.mp nd).1
  | b :: l, n + 1, m + 1, nd, h1, h2 => by rw [nodup_at (List.nodup_cons.mp nd).2 (by simpa using h1 : l[n]? = some a) (by simpa using h2 : l[m]? = some a)]
/-- what a slot lets change -/
def cellAt (rho : Env) (mu : Store) (i : Nat) : Option Cell := match rho[i]? with
  | some (some (.own c)) => some c
  | some (some (.dat (.ref n))) => mu[n]?
  | _ => none
def putCell (rho : Env) (mu : Store) (i : Nat) (c : Cell) : Env × Store := match rho[i]? with
  | some (some (.dat (.ref n))) => (rho, mu.set n c)
  | _ => (rho.set i (some (.own c)), mu)
theorem SS.mutate {i : Nat} {c : Cell} (s : SS K Bk tk B0 H0 th0 B H th mu rho sg) (e : cellAt rho mu i = some c) :
    ∃ a o, sg[i]? = some (some (.ref a)) ∧ H a = some o ∧ B a = none ∧ CellOk K B th c o ∧ ∀ c' o', CellOk K B th c' o' → SS K Bk tk B0 H0 th0 B (upd H a o') th (putCell rho mu i c').2 (putCell rho mu i c').1 sg := by
  unfold cellAt at e
  split at e
  · rename_i c0 hr
    cases e
    obtain ⟨a, o, h1, h2, h3, h4, h5⟩ := s.own i _ hr
    have hp : ∀ c', putCell rho mu i c' = (rho.set i (some (.own c')), mu) := fun c' => by unfold putCell; rw [hr]
    refine ⟨a, o, h1, h4, h2, h5, fun c' o' co => ?_⟩
    rw [hp]
    have sc : SRc K B (upd H a o') th mu := s.toSRc.mut h2 h3
    have hi : i < rho.length := (List.getElem?_eq_some_iff.mp hr).1
    have key : ∀ {j : Nat} {y : Slot}, (rho.set i (some (Slot.own c')))[j]? = some (some y) → (i = j ∧ y = .own c') ∨ (i ≠ j ∧ rho[j]? = some (some y)) := fun {j y} h => by
      by_cases z : i = j
      · subst z
        rw [List.getElem?_set_self hi] at h
        cases h
        exact .inl ⟨rfl, rfl⟩
      · rw [List.getElem?_set_ne z] at h
        exact .inr ⟨z, h⟩
    refine ⟨⟨sc, by rw [List.length_set]; exact s.sl, fun j d h => ?_, fun j c2 h => ?_, fun j k c1 c2 b g1 g2 g3 g4 => ?_⟩, s.fut.mut (s.fresh i _ a hr h1), fun j c2 b g1 g2 => ?_, s.kp, s.kt⟩
    · rcases key h with ⟨_, z⟩ | ⟨_, z⟩
      · cases z
      · exact s.dat j d z
    · rcases key h with ⟨z1, z2⟩ | ⟨z1, z2⟩
      · cases z2; subst z1
        exact ⟨a, o', h1, h2, h3, upd_same, co⟩
      · obtain ⟨b, u, q1, q2, q3, q4, q5⟩ := s.own j c2 z2
        have ne : b ≠ a := fun z => z1 (s.apart i j _ _ a hr z2 h1 (z ▸ q1))
        exact ⟨b, u, q1, q2, q3, by rw [upd_ne ne]; exact q4, q5⟩
    · have own' : ∀ {j : Nat} {c2 : Cell}, (rho.set i (some (Slot.own c')))[j]? = some (some (.own c2)) → ∃ c3, rho[j]? = some (some (.own c3)) := fun {j c2} h => by
        rcases key h with ⟨z1, z2⟩ | ⟨z1, z2⟩
        · subst z1; exact ⟨_, hr⟩
        · exact ⟨_, z2⟩
      obtain ⟨d1, y1⟩ := own' g1
      obtain ⟨d2, y2⟩ := own' g2
      exact s.apart j k d1 d2 b y1 y2 g3 g4
    · rcases key g1 with ⟨z1, z2⟩ | ⟨z1, z2⟩
      · subst z1
        exact s.fresh i _ b hr g2
      · exact s.fresh j c2 b z2 g2
  · rename_i n hr
    obtain ⟨v, h1, h2⟩ := s.dat i _ hr
    cases h2 with
    | ref hn =>
      rename_i a
      obtain ⟨a', o, q1, q2, q3, q4⟩ := s.cell n c e
      rw [hn] at q1
      cases q1
      have hp : ∀ c', putCell rho mu i c' = (rho, mu.set n c') := fun c' => by unfold putCell; rw [hr]
      have hm : a ∈ th := List.mem_of_getElem? hn
      refine ⟨a, o, h1, q3, q2, q4, fun c' o' co => ?_⟩
      rw [hp]
      have hnl : n < mu.length := (List.getElem?_eq_some_iff.mp e).1
      have sc : SRc K B (upd H a o') th (mu.set n c') := by
        refine ⟨s.ex.updR q2, by rw [List.length_set]; exact s.len, fun m c2 hc => ?_, s.nd⟩
        by_cases z : n = m
        · subst z
          rw [List.getElem?_set_self hnl] at hc
          cases hc
          exact ⟨a, o', hn, q2, upd_same, co⟩
        · rw [List.getElem?_set_ne z] at hc
          obtain ⟨b, u, y1, y2, y3, y4⟩ := s.cell m c2 hc
          have ne : b ≠ a := fun w => by
            subst w
            exact z (nodup_at s.nd hn y1)
          exact ⟨b, u, y1, y2, by rw [upd_ne ne]; exact y3, y4⟩
      refine ⟨⟨sc, s.sl, s.dat, fun j c2 h => ?_, s.apart⟩, ?_, s.fresh, s.kp, s.kt⟩
      · obtain ⟨b, u, y1, y2, y3, y4, y5⟩ := s.own j c2 h
        have ne : b ≠ a := fun w => y3 (w ▸ hm)
        exact ⟨b, u, y1, y2, y3, by rw [upd_ne ne]; exact y4, y5⟩
      · refine ⟨s.fut.ex, s.fut.pre, fun b u y1 y2 => ?_, s.fut.nw, s.fut.bn, fun b hb => ?_, fun b vs hb => ?_⟩
        · rcases s.fut.nw a hm with z | z
          · rw [upd_ne (fun w => y2 (by rw [w]; exact z))]; exact s.fut.fr b u y1 y2
          · rw [upd_ne (ne_of_none y1 z)]; exact s.fut.fr b u y1 y2
        · by_cases w : b = a
          · subst w; rw [upd_same] at hb; cases hb
          · rw [upd_ne w] at hb; exact s.fut.dom b hb
        · by_cases w : b = a
          · subst w; rw [upd_same] at hb; exact absurd (Option.some.inj hb) (co.notup vs)
          · rw [upd_ne w] at hb; exact s.fut.tp b vs hb
  · cases e
/-- a cell is changed -/
theorem SS.mutN {n : Nat} {c : Cell} (s : SS K Bk tk B0 H0 th0 B H th mu rho sg) (e : mu[n]? = some c) :
    ∃ a o, th[n]? = some a ∧ H a = some o ∧ B a = none ∧ CellOk K B th c o ∧ ∀ c' o', CellOk K B th c' o' → SS K Bk tk B0 H0 th0 B (upd H a o') th (mu.set n c') rho sg := by
  obtain ⟨a, o, q1, q2, q3, q4⟩ := s.cell n c e
  have hm : a ∈ th := List.mem_of_getElem? q1
  refine ⟨a, o, q1, q3, q2, q4, fun c' o' co => ?_⟩
  have hnl : n < mu.length := (List.getElem?_eq_some_iff.mp e).1
  have sc : SRc K B (upd H a o') th (mu.set n c') := by
    refine ⟨s.ex.updR q2, by rw [List.length_set]; exact s.len, fun m c2 hc => ?_, s.nd⟩
    by_cases z : n = m
    · subst z
      rw [List.getElem?_set_self hnl] at hc
      cases hc
      exact ⟨a, o', q1, q2, upd_same, co⟩
    · rw [List.getElem?_set_ne z] at hc
      obtain ⟨b, u, y1, y2, y3, y4⟩ := s.cell m c2 hc
      have ne : b ≠ a := fun w => by
        subst w
        exact z (nodup_at s.nd q1 y1)
      exact ⟨b, u, y1, y2, by rw [upd_ne ne]; exact y3, y4⟩
  refine ⟨⟨sc, s.sl, s.dat, fun j c2 h => ?_, s.apart⟩, ?_, s.fresh, s.kp, s.kt⟩
  · obtain ⟨b, u, y1, y2, y3, y4, y5⟩ := s.own j c2 h
    have ne : b ≠ a := fun w => y3 (w ▸ hm)
    exact ⟨b, u, y1, y2, y3, by rw [upd_ne ne]; exact y4, y5⟩
  · refine ⟨s.fut.ex, s.fut.pre, fun b u y1 y2 => ?_, s.fut.nw, s.fut.bn, fun b hb => ?_, fun b vs hb => ?_⟩
    · rcases s.fut.nw a hm with z | z
      · rw [upd_ne (fun w => y2 (by rw [w]; exact z))]; exact s.fut.fr b u y1 y2
      · rw [upd_ne (ne_of_none y1 z)]; exact s.fut.fr b u y1 y2
    · by_cases w : b = a
      · subst w; rw [upd_same] at hb; cases hb
      · rw [upd_ne w] at hb; exact s.fut.dom b hb
    · by_cases w : b = a
      · subst w; rw [upd_same] at hb; exact absurd (Option.some.inj hb) (co.notup vs)
      · rw [upd_ne w] at hb; exact s.fut.tp b vs hb
/-- an own list is taken to stand for good -/
theorem SS.frz {i : Nat} {ds : List Dat} (s : SS K Bk tk B0 H0 th0 B H th mu rho sg) (e : rho[i]? = some (some (.own (.lst ds)))) : ∃ B1, SS K Bk tk B0 H0 th0 B1 H th mu (rho.set i (some (.dat (.lst ds)))) sg := by
  obtain ⟨a, o, h1, h2, h3, h4, h5⟩ := s.own i _ e
  cases h5 with
  | lst r =>
    rename_i vs
    have sc := s.toSRc.keep h4 h2 h3
    have ee : Ex B (upd B a (.lst vs)) := Ex.new h2
    have hi : i < rho.length := (List.getElem?_eq_some_iff.mp e).1
    have key : ∀ {j : Nat} {y : Slot}, (rho.set i (some (Slot.dat (.lst ds))))[j]? = some (some y) → (i = j ∧ y = .dat (.lst ds)) ∨ (i ≠ j ∧ rho[j]? = some (some y)) := fun {j y} h => by
      by_cases z : i = j
      · subst z
        rw [List.getElem?_set_self hi] at h
        cases h
        exact .inl ⟨rfl, rfl⟩
      · rw [List.getElem?_set_ne z] at h
        exact .inr ⟨z, h⟩
    refine ⟨upd B a (.lst vs), ⟨sc, by rw [List.length_set]; exact s.sl, fun j d h => ?_, fun j c h => ?_, fun j k c1 c2 b g1 g2 g3 g4 => ?_⟩, ⟨s.fut.ex.trans ee, s.fut.pre, s.fut.fr, s.fut.nw, fun b hb => ?_, s.fut.dom, s.fut.tp⟩, fun j c b g1 g2 => ?_, s.kp.trans ee, s.kt⟩
    · rcases key h with ⟨z1, z2⟩ | ⟨z1, z2⟩
      · cases z2; subst z1
        exact ⟨_, h1, .lst (.inl (.inl upd_same)) (r.mono ee (List.prefix_refl _))⟩
      · obtain ⟨v, y1, y2⟩ := s.dat j d z2
        exact ⟨v, y1, y2.mono ee (List.prefix_refl _)⟩
    · rcases key h with ⟨z1, z2⟩ | ⟨z1, z2⟩
      · cases z2
      · obtain ⟨b, u, y1, y2, y3, y4, y5⟩ := s.own j c z2
        have ne : b ≠ a := fun z => z1 (s.apart i j _ _ a e z2 h1 (z ▸ y1))
        exact ⟨b, u, y1, by rw [upd_ne ne]; exact y2, y3, y4, y5.mono ee (List.prefix_refl _)⟩
    · rcases key g1 with ⟨_, z⟩ | ⟨_, z1⟩
      · cases z
      · rcases key g2 with ⟨_, z⟩ | ⟨_, z2⟩
        · cases z
        · exact s.apart j k c1 c2 b z1 z2 g3 g4
    · by_cases z : b = a
      · subst z; exact .inr (.inl (s.fresh i _ b e h1))
      · rw [upd_ne z] at hb; exact s.fut.bn b hb
    · rcases key g1 with ⟨_, z⟩ | ⟨_, z⟩
      · cases z
      · exact s.fresh j c b z g2
/-- a new object becomes a cell -/
theorem SRc.cellNew {p : Addr} {c : Cell} {o : HO} (s : SRc K B H th mu) (hb : B p = none) (hp : p ∉ th) (hl : H p = some o) (co : CellOk K B th c o) : SRc K B H (th ++ [p]) (mu ++ [c]) where
  ex := s.ex
  len := by rw [List.length_append, List.length_append, s.len]; rfl
  cell := fun n x hn => by
    by_cases z : n < mu.length
    · rw [List.getElem?_append_left z] at hn
      obtain ⟨a, u, h1, h2, h3, h4⟩ := s.cell n x hn
      exact ⟨a, u, by rw [List.getElem?_append_left (by rw [s.len]; exact z)]; exact h1, h2, h3, h4.mono (Ex.refl _) (List.prefix_append _ _)⟩
    · have l := (List.getElem?_eq_some_iff.mp hn).1
      rw [List.length_append, List.length_singleton] at l
      have e : n = mu.length := by omega
      subst e
      rw [List.getElem?_append_right (Nat.le_refl _), Nat.sub_self] at hn
      cases hn
      exact ⟨p, o, by rw [← s.len, List.getElem?_append_right (Nat.le_refl _), Nat.sub_self]; rfl, hb, hl, co.mono (Ex.refl _) (List.prefix_append _ _)⟩
  nd := by
    rw [List.nodup_append]
    exact ⟨s.nd, by simp, fun a ha b hb => by
      simp at hb; subst hb
      exact fun z => hp (z ▸ ha)⟩
theorem Fut.cellNew {p : Addr} (f : Fut B0 H0 th0 B H th) (h : H0 p = none) : Fut B0 H0 th0 B H (th ++ [p]) where
  ex := f.ex
  pre := f.pre.trans (List.prefix_append _ _)
  fr := f.fr
  nw := fun a ha => by
    rcases List.mem_append.mp ha with z | z
    · exact f.nw a z
    · simp at z; subst z; exact .inr h
  bn := f.bn
  dom := f.dom
  tp := f.tp
end
end Lin

set_option maxHeartbeats 1000000
/-! Lin, part O: commands, what they are to reach, how they lie to the text; the stores. -/
namespace Lin
open PySem PySem.Spec PyProof.Rows L2

/-- what is stored: data, an own list, an own dict (t: its keys are tuples) -/
inductive P where
  | dat (e : E) | lst (e : E) | dic (t : Bool)
inductive Cm where
  | nil | seq (a b : Cm) | frz (i : Nat)
  | asg (i : Nat) (p : P) | par2 (i j : Nat) (p q : P) | par3 (i j l : Nat) (p q r : P)
  | asgT (tg : T) (e : E) | setIx (i : Nat) (k e : E) | app (i : Nat) (e : E) | ex (e : E)
  | setF (i : Nat) (e : E) | appF (i : Nat) (e : E)
  | ite (t : E) (a b : Cm) | whl (t : E) (b : Cm) | loop (tg : T) (it : E) (b : Cm)
  | asgC (i : Nat) (e : E) | iteL (i : Nat) (t : E) (a b : Cm)
  | iteH (i : Nat) (e : E) (a : Cm) | retL (g : Nat) (as : E) (js : List Nat) (lam : E) (ix : Option Int)
  | ret (e : E) | retC (e : E) | retO (i : Nat) | retN | brk | cont | pass | never
/-- what is wanted behind a command -/
structure DE where
  nx : Env → Store → Prop
  rt : Dat → Store → Prop
  bk : Env → Store → Prop := fun _ _ => False
  ct : Env → Store → Prop := fun _ _ => False
def evP (G : Gam) : P → Env → Store → Option (Slot × Store)
  | .dat e, rho, mu => bdD (ev G e rho mu) fun d mu1 => some (.dat d, mu1)
  | .lst e, rho, mu => bdD (ev G e rho mu) fun d mu1 => match d with
    | .lst ds => some (.own (.lst ds), mu1)
    | _ => none
  | .dic t, _, mu => some (.own (.dic t []), mu)
def putIx : Cell → Dat → Dat → Option Cell
  | .lst ds, k, d => match k with
    | .int k => (place ds.length k).map fun j => .lst (ds.set j d)
    | _ => none
  | .dic t kvs, k, d => if keyFor t k = true ∧ kvs.length < cap then some (.dic t (dput kvs k d)) else none
  | .ins _, _, _ => none
  | .tab _ _ _, _, _ => none
/-- it has come to a datum -/
def wD (x : Option (Hd × Store)) (Q : Dat → Store → Prop) : Prop := ∃ d mu, x = some (.dat d, mu) ∧ Q d mu
def wB (x : Option (Hd × Store)) (Q : Bool → Store → Prop) : Prop := ∃ d mu, x = some (.dat (.bl d), mu) ∧ Q d mu
def wO {α : Type} (x : Option (α × Store)) (Q : α → Store → Prop) : Prop := ∃ d mu, x = some (d, mu) ∧ Q d mu
@[simp] theorem wD_some (d : Dat) (mu : Store) (Q : Dat → Store → Prop) : wD (some (.dat d, mu)) Q = Q d mu := by
  refine propext ⟨fun ⟨a, b, e, q⟩ => ?_, fun q => ⟨d, mu, rfl, q⟩⟩
  cases e; exact q
@[simp] theorem wB_some (d : Bool) (mu : Store) (Q : Bool → Store → Prop) : wB (some (.dat (.bl d), mu)) Q = Q d mu := by
  refine propext ⟨fun ⟨a, b, e, q⟩ => ?_, fun q => ⟨d, mu, rfl, q⟩⟩
  cases e; exact q
@[simp] theorem wO_some {α : Type} (d : α) (mu : Store) (Q : α → Store → Prop) : wO (some (d, mu)) Q = Q d mu := by
  refine propext ⟨fun ⟨a, b, e, q⟩ => ?_, fun q => ⟨d, mu, rfl, q⟩⟩
  cases e; exact q
def wFor (tg : T) (wb : DE → Env → Store → Prop) (D : DE) : List Dat → Env → Store → Prop
  | [], rho, mu => D.nx rho mu
  | x :: xs, rho, mu => ∃ rho1, bindT tg x rho = some rho1 ∧ wb { nx := wFor tg wb D xs, rt := D.rt, ct := wFor tg wb D xs, bk := D.nx } rho1 mu
/-- stores without refs: bags, tables -/
def flatD : Dat → Bool
  | .non => true
  | .bl _ => true
  | .int _ => true
  | .str _ => true
  | _ => false
def flatC (m : Nat) : Cell → Bool
  | .lst ds => ds.all flatD
  | .tab n _ _ => n == m
  | _ => false
def flatS (mu : Store) : Prop := ∀ m c, mu[m]? = some c → flatC m c = true
/-- what a lambda keeps of a slot -/
def capS (rho : Env) (j : Nat) : Option Slot := match rho[j]? with
  | some (some (.dat d)) => some (.dat d)
  | _ => none
/-- what a lambda computes -/
def cloOf (G : Gam) (js : List Nat) (lam : E) (rho : Env) : Fn := fun ds mu => match ev G.bare lam (ds.map (fun d => some (.dat d)) ++ js.map (capS rho)) mu with
  | some (.dat d, mu') => some (.ok d mu')
  | _ => none
def ixT (ix : Option Int) (d d' : Dat) : Prop := match ix with
  | none => d' = d
  | some i => ∃ xs, d = .tup xs ∧ at? xs i = some d'
def wpS (G : Gam) : Cm → DE → Env → Store → Prop
  | .nil, D, rho, mu => D.nx rho mu
  | .seq a b, D, rho, mu => wpS G a { D with nx := wpS G b D } rho mu
  | .frz i, D, rho, mu => ∃ ds, rho[i]? = some (some (.own (.lst ds))) ∧ D.nx (rho.set i (some (.dat (.lst ds)))) mu
  | .asg i p, D, rho, mu => wO (evP G p rho mu) fun s mu1 => D.nx (rho.set i (some s)) mu1
  | .par2 i j p q, D, rho, mu => wO (evP G p rho mu) fun s mu1 => wO (evP G q rho mu1) fun s2 mu2 => D.nx ((rho.set i (some s)).set j (some s2)) mu2
  | .par3 i j l p q r, D, rho, mu => wO (evP G p rho mu) fun s mu1 => wO (evP G q rho mu1) fun s2 mu2 => wO (evP G r rho mu2) fun s3 mu3 => D.nx (((rho.set i (some s)).set j (some s2)).set l (some s3)) mu3
  | .asgT tg e, D, rho, mu => wD (ev G e rho mu) fun d mu1 => ∃ rho1, bindT tg d rho = some rho1 ∧ D.nx rho1 mu1
  | .setIx i k e, D, rho, mu => wD (ev G e rho mu) fun d mu1 => wD (ev G k rho mu1) fun kd mu2 => ∃ c c', cellAt rho mu2 i = some c ∧ putIx c kd d = some c' ∧ D.nx (putCell rho mu2 i c').1 (putCell rho mu2 i c').2
  | .app i e, D, rho, mu => (∃ ds, cellAt rho mu i = some (.lst ds)) ∧ wD (ev G e rho mu) fun d mu1 => ∃ ds, cellAt rho mu1 i = some (.lst ds) ∧ ds.length < cap ∧ D.nx (putCell rho mu1 i (.lst (ds ++ [d]))).1 (putCell rho mu1 i (.lst (ds ++ [d]))).2
  | .ex e, D, rho, mu => wD (ev G e rho mu) fun _ mu1 => D.nx rho mu1
  | .setF i e, D, rho, mu => wD (ev G e rho mu) fun d mu1 => ∃ (ds : List Dat) (n : Nat) (f : Option Nat), d = .lst ds ∧ rho[i]? = some (some (.dat (.ref n))) ∧ mu1[n]? = some (.ins f) ∧ G.ed = true ∧ D.nx rho ((mu1 ++ [Cell.lst ds]).set n (Cell.ins (some mu1.length)))
  | .appF i e, D, rho, mu => ∃ n m, rho[i]? = some (some (.dat (.ref n))) ∧ mu[n]? = some (.ins (some m)) ∧ G.ed = true ∧ (∃ ds, mu[m]? = some (.lst ds)) ∧ wD (ev G e rho mu) fun d mu1 => ∃ ds, mu1[m]? = some (.lst ds) ∧ ds.length < cap ∧ D.nx rho (mu1.set m (.lst (ds ++ [d])))
  | .ite t a b, D, rho, mu => wB (ev G t rho mu) fun c mu1 => if c = true then wpS G a D rho mu1 else wpS G b D rho mu1
  | .whl t b, D, rho, mu => ∃ I : Nat → Env → Store → Prop, (∃ m, I m rho mu) ∧ ∀ m rho mu, I m rho mu → wB (ev G t rho mu) fun c mu1 =>
      if c = true then wpS G b { nx := fun r u => ∃ m', m' < m ∧ I m' r u, rt := D.rt, ct := fun r u => ∃ m', m' < m ∧ I m' r u, bk := D.nx } rho mu1 else D.nx rho mu1
  | .loop tg it b, D, rho, mu => wO (evI G it rho mu) fun xs mu1 => wFor tg (fun D' => wpS G b D') D xs rho mu1
  | .asgC i e, D, rho, mu => ∃ mu0 ds, ev G e rho mu = some (.dat (.ref mu0.length), mu0 ++ [.lst ds]) ∧ mu.length ≤ mu0.length ∧ flatS (mu0 ++ [.lst ds]) ∧ D.nx (rho.set i (some (.own (.lst ds)))) mu0
  | .iteL i t a b, D, rho, mu => ∃ ds, rho[i]? = some (some (.own (.lst ds))) ∧ wB (ev G t (rho.set i (some (.dat (.lst ds)))) mu) fun c mu1 => flatS mu1 ∧ if c = true then wpS G a D rho mu1 else wpS G b D rho mu1
  | .iteH i e a, D, rho, mu => wD (ev G e rho mu) fun d mu1 => ∃ f clo b mu2, rho[i]? = some (some (.dat (.fn f))) ∧ G.hb = some (f, clo) ∧ clo [d] mu1 = some (.ok (.bl b) mu2) ∧ (if b = true then wpS G a D rho mu2 else D.nx rho mu2)
  | .retL g as js lam ix, D, rho, mu => ∃ ds mu1 n P q HF d mu2 d', evA G as rho mu = some (ds, mu1) ∧ G.tb = some (n, P, q) ∧ mu1[n]? = some (.tab n P q) ∧ G.hf g = some HF ∧ ds.length + 1 = G.ar g ∧ (∀ f, HF f (cloOf G js lam rho) ds mu1 = some (.ok d mu2)) ∧ ixT ix d d' ∧ D.rt d' mu2
  | .ret e, D, rho, mu => wD (ev G e rho mu) D.rt
  | .retC e, D, rho, mu => isFr e = true ∧ wD (ev G e rho mu) fun d mu1 => ∃ ds, d = .lst ds ∧ D.rt (.ref mu1.length) (mu1 ++ [.lst ds])
  | .retO i, D, rho, mu => ∃ c, rho[i]? = some (some (.own c)) ∧ D.rt (.ref mu.length) (mu ++ [c])
  | .retN, D, _, mu => D.rt .non mu
  | .brk, D, rho, mu => D.bk rho mu
  | .cont, D, rho, mu => D.ct rho mu
  | .pass, D, rho, mu => D.nx rho mu
  | .never, _, _, _ => False

/-! ### the text -/
/-- a list comprehension's own way to be stored -/
def lcSw (sc : Scope) (x : Expr) (y : Str) (py : Pos) : Bool := match x with
  | .ListComp _ _ scope pos => lclB sc y && py.line == pos.line && !(scope.names.any fun (n, k) => n == y && (k == .local || k == .cell))
  | _ => false
/-- what swappedStores says -/
def swNames (sc : Scope) (ts : List Expr) : List Str := ts.filterMap fun
  | .Name id pos => if sc.names.lookup id == some .local && pos.line == (ts.head?.map (·.pos.line)).getD 0 then some id else none
  | _ => none
def isStar : Expr → Bool
  | .Starred .. => true
  | _ => false
def swL (sc : Scope) (ts vs : List Expr) : Option (Option (List Str)) :=
  if (!(ts.length == 2 || ts.length == 3) || vs.length != ts.length) = true then some none
  else if vs.any isStar = true then some none
  else if ((swNames sc ts).length != ts.length || (swNames sc ts).eraseDups.length != (swNames sc ts).length) = true then some none
  else if vs.all (foldedForSure 8) = true then some none
  else if vs.all (constantsAlone 8) = true then none
  else some (some (swNames sc ts))
def swS (sc : Scope) (t x : Expr) : Option (Option (List Str)) := match t, x with
  | .Tuple ts _ _, .Tuple vs _ _ => swL sc ts vs
  | .List _ _, .Tuple _ _ _ => none
  | _, _ => some none
def mP (nm : Nms) (N : List Str) (sc : Scope) : P → Expr → Bool
  | .dat e, x => mE nm N sc e x
  | .lst e, x => isFr e && mE nm N sc e x
  | .dic _, .Dict [] [] _ => true
  | _, _ => false
/-- y.states = [..] -/
def asF : List Expr → Expr → Option (Str × Pos × Pos × List Expr × Pos)
  | [.Attribute (.Name y yp) f ap], .List xs lp => if f = ("states" : Str) then some (y, yp, ap, xs, lp) else none
  | _, _ => none
theorem asF_inv {ts : List Expr} {v : Expr} {y : Str} {yp ap lp : Pos} {xs : List Expr} (h : asF ts v = some (y, yp, ap, xs, lp)) : ts = [.Attribute (.Name y yp) "states" ap] ∧ v = .List xs lp := by
  unfold asF at h
  split at h
  · split at h
    · rename_i e
      cases h
      rw [e]
      exact ⟨rfl, rfl⟩
    · cases h
  · cases h
def isCl : Expr → Bool
  | .Call (.Name _ _) _ _ _ => true
  | .Call (.Attribute (.Name _ _) _ _) _ _ _ => true
  | _ => false
/-- g(.., lambda ..: b) -/
def asL : Expr → Option (Str × Pos × List Expr × Arguments × Expr × Scope × Pos × Pos)
  | .Call (.Name y p) xs [] pos => match xs.getLast? with
    | some (.Lambda ps b sc lp) => some (y, p, xs.dropLast, ps, b, sc, lp, pos)
    | _ => none
  | _ => none
theorem asL_inv {x : Expr} {y : Str} {p lp pos : Pos} {xs : List Expr} {ps : Arguments} {b : Expr} {sc : Scope} (h : asL x = some (y, p, xs, ps, b, sc, lp, pos)) : x = .Call (.Name y p) (xs ++ [.Lambda ps b sc lp]) [] pos := by
  unfold asL at h
  split at h
  · rename_i y' p' xs' pos'
    split at h
    · rename_i ps' b' sc' lp' e
      cases h
      have e2 : xs' ≠ [] := fun z => by rw [z] at e; cases e
      have e3 := List.dropLast_concat_getLast e2
      rw [List.getLast?_eq_some_getLast e2] at e
      rw [Option.some.inj e] at e3
      rw [e3]
    · cases h
  · cases h
def lamPs : Arguments → Option (List Str)
  | ⟨[], [], none, [], [], none, []⟩ => some []
  | ⟨[], [⟨a, _, _⟩], none, [], [], none, []⟩ => if a = ("told" : Str) then some ["told"] else none
  | _ => none
theorem lamPs_ok {ps : Arguments} {l : List Str} (h : lamPs ps = some l) : (∀ env, defaultsOf ps env = ([], [])) ∧ ∀ (n q : Str) (b : Expr) (sc : Scope) (cl : List (Str × Addr)) (pm cv ct : Value) (us : List Value), us.length = l.length → bindArgs (PySem.W.kla_fn n q ps b sc cl pm cv ct) ⟨us, []⟩ = pure (l.zip us) := by
  unfold lamPs at h
  split at h
  · cases h
    refine ⟨fun _ => rfl, fun n q b sc cl pm cv ct us hl => ?_⟩
    match us, hl with
    | [], _ => rfl
  · split at h
    · rename_i e
      subst e
      cases h
      refine ⟨fun _ => rfl, fun n q b sc cl pm cv ct us hl => ?_⟩
      match us, hl with
      | [u], _ => rfl
    · cases h
  · cases h
def mL (nm : Nms) (N : List Str) (sc : Scope) (g : Nat) (as : E) (js : List Nat) (lam : E) (x : Expr) : Bool := match asL x with
  | some (y, _, xs, ps, b, lsc, _, _) => (match lamPs ps with
    | some l => decide (y = nm.fn g) && glB sc y && plainName y && mEs nm N sc as xs && js.all (fun j => decide (j < N.length)) && NdefX.nscB (l ++ js.map fun j => N.getD j "") l (js.map fun j => N.getD j "") lsc && NdefX.ndefB sc lsc (js.map fun j => N.getD j "") && mE nm (l ++ js.map fun j => N.getD j "") lsc lam b && decide (l.length = 1)
    | none => false)
  | none => false
def mLx (nm : Nms) (N : List Str) (sc : Scope) (g : Nat) (as : E) (js : List Nat) (lam : E) : Option Int → Expr → Bool
  | none, x => mL nm N sc g as js lam x
  | some i, .Subscript x (.Constant (.int j) _ _) _ => decide (i = j) && mL nm N sc g as js lam x
  | _, _ => false
mutual
def mS (nm : Nms) (N : List Str) (sc : Scope) : Cm → Stmt → Bool
  | .asg i p, .Assign [.Name y py] x pos => decide (N[i]? = some y) && locB sc y && mP nm N sc p x
  | .par2 i j p q, .Assign [.Tuple [.Name x px, .Name y py] kt pt] (.Tuple [a, b] k2 pt2) pos => decide (N[i]? = some x) && decide (N[j]? = some y) && decide (i ≠ j) && lclB sc x && lclB sc y && mP nm N sc p a && mP nm N sc q b &&
      decide (swS sc (.Tuple [.Name x px, .Name y py] kt pt) (.Tuple [a, b] k2 pt2) = some (some [x, y]))
  | .par3 i j l p q r, .Assign [.Tuple [.Name x px, .Name y py, .Name z pz] kt pt] (.Tuple [a, b, c] k2 pt2) pos => decide (N[i]? = some x) && decide (N[j]? = some y) && decide (N[l]? = some z) && decide (i ≠ j) && decide (i ≠ l) && decide (j ≠ l) && lclB sc x && lclB sc y && lclB sc z &&
      mP nm N sc p a && mP nm N sc q b && mP nm N sc r c && decide (swS sc (.Tuple [.Name x px, .Name y py, .Name z pz] kt pt) (.Tuple [a, b, c] k2 pt2) = some (some [x, y, z]))
  | .asgT tg e, .Assign [t] x _ => isTup tg && mT N sc (fun _ => true) tg t && mE nm N sc e x && decide (swS sc t x = some none)
  | .setIx i k e, .Assign [.Subscript (.Name y _) z _] x _ => decide (N[i]? = some y) && visB sc y && plainName y && mE nm N sc k z && mE nm N sc e x
  | .app i e, .Expr (.Call (.Attribute (.Name y _) n pa) [x] [] pc) _ => decide (N[i]? = some y) && visB sc y && plainName y && decide (n = ("append" : Str)) && (pa.endLine == pc.line) && mE nm N sc e x
  | .ex e, .Expr x _ => isCl x && mE nm N sc e x
  | .setF i e, .Assign ts v _ => match asF ts v with
    | some (y, _, _, xs, lp) => decide (N[i]? = some y) && visB sc y && plainName y && isFr e && mE nm N sc e (.List xs lp)
    | none => false
  | .appF i e, .Expr (.Call (.Attribute (.Attribute (.Name y _) f _) n pa) [x] [] pc) _ => decide (N[i]? = some y) && visB sc y && plainName y && decide (f = ("states" : Str)) && decide (n = ("append" : Str)) && (pa.endLine == pc.line) && mE nm N sc e x
  | .ite t a b, .If x p q _ => mE nm N sc t x && mB nm N sc a p && mB nm N sc b q
  | .whl t b, .While x p [] _ => mE nm N sc t x && mB nm N sc b p
  | .loop tg it b, .For t x p [] _ => mT N sc (fun _ => true) tg t && mI nm N sc (isTup tg) it x && mB nm N sc b p
  | .asgC i e, .Assign [.Name y _] x _ => decide (N[i]? = some y) && locB sc y && isCl x && mE nm N sc e x
  | .iteL i t a b, .If x p q _ => mE nm N sc t x && mB nm N sc a p && mB nm N sc b q
  | .iteH i e a, .If (.Call (.Name y _) [z] [] _) p [] _ => decide (N[i]? = some y) && visB sc y && plainName y && mE nm N sc e z && mB nm N sc a p
  | .retL g as js lam ix, .Return (some x) _ => mLx nm N sc g as js lam ix x
  | .ret e, .Return (some x) _ => mE nm N sc e x
  | .retC e, .Return (some x) _ => mE nm N sc e x
  | .retO i, .Return (some (.Name y _)) _ => decide (N[i]? = some y) && visB sc y && plainName y
  | .retN, .Return none _ => true
  | .brk, .Break _ => true
  | .cont, .Continue _ => true
  | .pass, .Pass _ => true
  | .never, _ => true
  | _, _ => false
def mB (nm : Nms) (N : List Str) (sc : Scope) : Cm → List Stmt → Bool
  | .nil, [] => true
  | .seq (.frz _) b, st => mB nm N sc b st
  | .seq a b, x :: st => mS nm N sc a x && mB nm N sc b st
  | _, _ => false
end
end Lin

set_option maxHeartbeats 1000000
/-! Lin, part P: single stores. -/
namespace Lin
open PySem PySem.Spec PyProof.Rows L2

theorem swS_eq {env : PySem.Env} {t x : Expr} {r : Option (List Str)} (hk : env.scope.kind = .function) (h : swS env.scope t x = some r) : swappedStores [t] x env = pure r := by
  have hb : env.blockKind = .function := by unfold PySem.Env.blockKind; rw [hk]; rfl
  have hkd : ∀ id, env.kindOf id = env.scope.names.lookup id := fun _ => rfl
  unfold swS at h
  split at h
  · rename_i ts _ _ vs _ _
    unfold swappedStores
    simp only [hb, hkd]
    simp only [bne_self_eq_false, Bool.or_false]
    unfold swL at h
    by_cases h1 : (!(ts.length == 2 || ts.length == 3) || vs.length != ts.length) = true
    · rw [if_pos h1] at h ⊢; cases h; rfl
    · rw [if_neg h1] at h ⊢
      by_cases h2 : vs.any isStar = true
      · rw [if_pos h2] at h; cases h
        exact if_pos h2
      · rw [if_neg h2] at h
        refine Eq.trans (if_neg h2) ?_
        by_cases h3 : ((swNames env.scope ts).length != ts.length || (swNames env.scope ts).eraseDups.length != (swNames env.scope ts).length) = true
        · rw [if_pos h3] at h; cases h
          exact if_pos h3
        · rw [if_neg h3] at h
          refine Eq.trans (if_neg h3) ?_
          by_cases h4 : vs.all (foldedForSure 8) = true
          · rw [if_pos h4] at h; cases h
            exact if_pos h4
          · rw [if_neg h4] at h
            refine Eq.trans (if_neg h4) ?_
            by_cases h5 : vs.all (constantsAlone 8) = true
            · rw [if_pos h5] at h; cases h
            · rw [if_neg h5] at h; cases h
              exact if_neg h5
  · cases h
  · rename_i n1 n2
    cases h
    cases t with
    | Tuple ts a b =>
      cases x with
      | Tuple vs c d => exact (n1 ts a b vs c d rfl rfl).elim
      | _ => rfl
    | List ts a =>
      cases x with
      | Tuple vs c d => exact (n2 ts a vs c d rfl rfl).elim
      | _ => rfl
    | _ => rfl

/-- where a command stands -/
structure CtxS (X : Cx) (N : List Str) (sc : Scope) (k : Nat) (G : Gam) (nm : Nms) (xa : Nat → Addr) : Prop extends Ctx X N sc k G nm xa where
  hk : sc.kind = .function
  fn : ∀ x, X.fn x = true
  pas : PassesOwn (model X.prog X.w) X.A X.env X.xe
  ex : X.ex = []
  tbk : ∀ n P q, G.tb = some (n, P, q) → X.env.qual ++ "<lambda>" = q ∧ ∃ c, LamX.TabB X.base X.mg c P ∧ X.env.code = .ref c
/-- a value for a slot -/
def tP (K : PySem.W.Frag) (rho : Env) (mu : Store) (s : Slot) (mu' : Store) : TE := fun sg H Q => ∃ B th, SR K B H th mu rho sg ∧
  ∀ v B' H' th', SRc K B' H' th' mu' → Fut B H th B' H' th' → StV K H B' H' th' s v → Q v H'
theorem tP_dat {K : PySem.W.Frag} {rho : Env} {mu mu' : Store} {d : Dat} : ∀ sg H Q, tP K rho mu (.dat d) mu' sg H Q → tV K rho mu (.dat d) mu' sg H Q := fun sg H Q ⟨B, th, sr, q⟩ => ⟨B, th, sr, fun v B' H' th' s f r => q v B' H' th' s f r⟩
theorem tP_lst {K : PySem.W.Frag} {rho : Env} {mu mu' : Store} {ds : List Dat} : ∀ sg H Q, tP K rho mu (.own (.lst ds)) mu' sg H Q → tF K rho mu ds mu' sg H Q := fun sg H Q ⟨B, th, sr, q⟩ => ⟨B, th, sr, fun p vs B' H' th' s f hn hb hp hl hr => q (.ref p) B' H' th' s f ⟨p, _, rfl, hn, hb, hp, hl, .lst hr⟩⟩
theorem tP_keep {K : PySem.W.Frag} {rho : Env} {mu mu' : Store} {ds : List Dat} : ∀ sg H Q, tP K rho mu (.dat (.lst ds)) mu' sg H Q → tF K rho mu ds mu' sg H Q := fun sg H Q ⟨B, th, sr, q⟩ => ⟨B, th, sr, fun p vs B' H' th' sc f hn hb hp hl hr => by
    have e : Ex B' (upd B' p (.lst vs)) := Ex.new hb
    refine q _ (upd B' p (.lst vs)) H' th' (sc.keep hl hb hp) ⟨f.ex.trans e, f.pre, f.fr, f.nw, fun a ha => ?_, f.dom, f.tp⟩ (.lst (.inl (.inl upd_same)) (hr.mono e (List.prefix_refl _)))
    by_cases z : a = p
    · subst z; exact .inr (.inl hn)
    · rw [upd_ne z] at ha; exact f.bn a ha⟩
theorem evP_lst {G : Gam} {e : E} {rho : Env} {mu mu' : Store} {s : Slot} (h : evP G (.lst e) rho mu = some (s, mu')) : ∃ ds, ev G e rho mu = some (.dat (.lst ds), mu') ∧ s = .own (.lst ds) := by
  obtain ⟨d, m, e1, e2⟩ := bdD_inv h
  cases d with
  | lst ds => cases e2; exact ⟨ds, e1, rfl⟩
  | _ => cases e2
theorem evP_dat {G : Gam} {e : E} {rho : Env} {mu mu' : Store} {s : Slot} (h : evP G (.dat e) rho mu = some (s, mu')) : ∃ d, ev G e rho mu = some (.dat d, mu') ∧ s = .dat d := by
  obtain ⟨d, m, e1, e2⟩ := bdD_inv h
  cases e2
  exact ⟨d, e1, rfl⟩
theorem mP_dic {nm : Nms} {N : List Str} {sc : Scope} {t : Bool} {x : Expr} (h : mP nm N sc (.dic t) x = true) : ∃ pos, x = .Dict [] [] pos := by
  cases x with
  | Dict ks vs pos =>
    match ks, vs, h with
    | [], [], _ => exact ⟨pos, rfl⟩
    | [], _ :: _, h => exact Bool.noConfusion (show false = true from h)
    | _ :: _, _, h => exact Bool.noConfusion (show false = true from h)
  | _ => exact Bool.noConfusion (show false = true from h)
section
variable {nm : Nms} {xa : Nat → Addr} {X : Cx} {N : List Str} {sc : Scope} {k : Nat} {G : Gam}
theorem pv_sound (hc : Ctx X N sc k G nm xa) {p : P} {x : Expr} (hm : mP nm N sc p x = true) {rho : Env} {mu mu' : Store} {s : Slot} (he : evP G p rho mu = some (s, mu')) : PE X x (tP X.K rho mu s mu') := by
  cases p with
  | dat e =>
    obtain ⟨d, e1, rfl⟩ := evP_dat he
    exact pe_mono ((sound nm xa e).v hc hm e1) tP_dat
  | lst e =>
    obtain ⟨ds, e1, rfl⟩ := evP_lst he
    obtain ⟨h1, h2⟩ := and2 (show (isFr e && mE nm N sc e x) = true from hm)
    exact pe_mono ((sound nm xa e).f hc h1 h2 e1) tP_lst
  | dic t =>
    cases he
    obtain ⟨pos, rfl⟩ := mP_dic hm
    cases t with
    | false => exact pe_mono pe_dnewK fun sg H Q ⟨B, th, sr, q⟩ p hp => q _ B _ th (sr.toSRc.skip hp) (.skip hp) ⟨p, _, rfl, hp, sr.ex.nn hp, sr.toSRc.notin hp, upd_same, .dicK .nil⟩
    | true => exact pe_mono pe_dnewT fun sg H Q ⟨B, th, sr, q⟩ p hp => q _ B _ th (sr.toSRc.skip hp) (.skip hp) ⟨p, _, rfl, hp, sr.ex.nn hp, sr.toSRc.notin hp, upd_same, .dicT .nil⟩
theorem mP_star {p : P} {x : Expr} (hm : mP nm N sc p x = true) : ∀ es env, starEach (x :: es) env = (false, eval x env) :: starEach es env := by
  cases p with
  | dat e => exact (mE_form (show mE nm N sc e x = true from hm)).1
  | lst e => exact (mE_form (and2 (show (isFr e && mE nm N sc e x) = true from hm)).2).1
  | dic t => obtain ⟨pos, rfl⟩ := mP_dic hm; exact fun _ _ => rfl
theorem sw_lc {elt : Expr} {gs : List Comprehension} {scope : Scope} {pos py : Pos} {y : Str} {l : Nat} {env : PySem.Env} (hk : env.scope.kind = .function) : swapsWith (.ListComp elt gs scope pos) (some (.Name y py)) l env = pure (lcSw env.scope (.ListComp elt gs scope pos) y py) := by
  have hb : env.blockKind = .function := by unfold PySem.Env.blockKind; rw [hk]; rfl
  have hkd : env.kindOf y = env.scope.names.lookup y := rfl
  have hl : (env.scope.names.lookup y == some NameKind.local) = lclB env.scope y := by
    unfold lclB
    cases env.scope.names.lookup y with
    | none => rfl
    | some kd => cases kd <;> rfl
  unfold swapsWith lcSw
  simp only [hb, hkd, hl, Expr.pos]
  simp only [beq_self_eq_true, Bool.true_and]
/-- the other comprehensions -/
def isSD : Expr → Bool
  | .SetComp .. => true
  | .DictComp .. => true
  | _ => false
theorem sw_else {x : Expr} {o : Option Expr} {l : Nat} {env : PySem.Env} (h : ∀ a b c d, x ≠ .ListComp a b c d) (h2 : isSD x = false) : swapsWith x o l env = pure false := by
  cases x <;> first | rfl | exact absurd rfl (h _ _ _ _) | cases h2
theorem sw_nonName {x t : Expr} {l : Nat} {env : PySem.Env} (h : ∀ a b, t ≠ .Name a b) (h2 : isSD x = false) : swapsWith x (some t) l env = pure false := by
  cases x <;> first | rfl | (cases t <;> first | rfl | exact absurd rfl (h _ _)) | cases h2
theorem mE_nosw {e : E} {x : Expr} (h : mE nm N sc e x = true) : isSD x = false := by
  cases x <;> first | rfl | (cases e <;> exact Bool.noConfusion (show false = true from h))
theorem mP_nosw {p : P} {x : Expr} (hm : mP nm N sc p x = true) : isSD x = false := by
  cases p with
  | dat e => exact mE_nosw (show mE nm N sc e x = true from hm)
  | lst e => exact mE_nosw (and2 (show (isFr e && mE nm N sc e x) = true from hm)).2
  | dic t => obtain ⟨pos, rfl⟩ := mP_dic hm; rfl
theorem ps_mono {st : Stmt} {t t' : TS} (h : PS X st t) (hm : ∀ D sg H, t' D sg H → t D sg H) : PS X st t' := ⟨fun pins s sg H D I q => h.run pins s sg H D I (hm _ _ _ q)⟩
theorem pss_mono {st : List Stmt} {t t' : TS} (h : PSs X st t) (hm : ∀ D sg H, t' D sg H → t D sg H) : PSs X st t' := ⟨fun pins s sg H D I q => h.run pins s sg H D I (hm _ _ _ q)⟩
/-- the target of a comprehension -/
theorem mE_lc {e : E} {a : Expr} {b : List Comprehension} {c : Scope} {d : Pos} (h : mE nm N sc e (.ListComp a b c d) = true) : ∃ own tg it ifs elt, e = .lc own tg it ifs elt := by
  cases e <;> first | exact ⟨_, _, _, _, _, rfl⟩ | exact Bool.noConfusion (show false = true from h)
theorem ps_asgV (hc : CtxS X N sc k G nm xa) {p : P} {i : Nat} {y : Str} {py pos : Pos} {x : Expr} (hi : N[i]? = some y) (hl : locB sc y = true) (hm : mP nm N sc p x = true) {rho : Env} {mu mu' : Store} {s : Slot} (he : evP G p rho mu = some (s, mu')) :
    PS X (.Assign [.Name y py] x pos) (tAsg (tP X.K rho mu s mu') (gName i)) := by
  have hN : X.N.Nodup := by rw [hc.hN]; exact hc.nd
  have hi' : X.N[i]? = some y := by rw [hc.hN]; exact hi
  have hl' : Loc X.env.scope y := by rw [hc.hsc]; exact locB_of hl
  have hk : X.env.scope.kind = .function := by rw [hc.hsc]; exact hc.hk
  have pv := pv_sound hc.toCtx hm he
  by_cases hx : ∃ a b c d, x = .ListComp a b c d
  · obtain ⟨a, b, c, d, rfl⟩ := hx
    cases hb : lcSw X.env.scope (.ListComp a b c d) y py with
    | false => exact ps_set hN hi' hl' pv (by rw [sw_lc hk, hb]) (.inl (hc.fn y))
    | true =>
      have hyl : X.env.scope.names.lookup y = some .local := lclB_of (and2 (and2 (show ((lclB X.env.scope y && py.line == d.line) && !(c.names.any fun (n, k) => n == y && (k == .local || k == .cell))) = true from hb)).1).1
      have main : ∀ {e : E} {ds : List Dat}, mE nm N sc e (.ListComp a b c d) = true → ev G e rho mu = some (.dat (.lst ds), mu') → PS X (.Assign [.Name y py] (.ListComp a b c d) pos) (tAsg (tF X.K rho mu ds mu') (gName i)) := fun {e ds} hx hv => by
        obtain ⟨own, tg, it, ifs, elt, rfl⟩ := mE_lc hx
        obtain ⟨y1, t, i1, fs, scope, pos1, e0, h1, h2, h3, h4, h5, h6⟩ := inv_lc hx
        cases e0
        obtain ⟨xs, m1, ds', e1, e2, e3, e4⟩ := ev_lc hv
        cases e4
        have hN' := hc.hN
        have hsc := hc.hsc
        refine ps_mono (ps_setLc (own := own) (g := gT X.K tg) (tt := tTx X.K G ifs) (te := tVx X.K G elt) hc.calm hN hi' hyl (by rw [sw_lc hk, hb]) ((sound nm xa it).i hc.toCtx h1 (isTup_of h3) e1) (blkOk_by (by rw [hN', hsc]; exact h2)) (fun s H C cl fp => ?_) (fun s H C cl fp => ?_) (fun s H C cl fp => ?_) (mI_form h1 _)) (fun D sg H q => lc_read e2 h4 e3 sg H _ q)
        · have hb := hc.toCtx.blk s H c C cl fp
          exact pg_of hb.hN hb.nd hb.hsc hb.calm (fun x hx => by rw [hb.hsc]; exact compOk_fn hx) h3
        · exact (sound nm xa ifs).tx (hc.toCtx.blk s H c C cl fp) h5
        · exact (sound nm xa elt).vx (hc.toCtx.blk s H c C cl fp) h6
      cases p with
      | dat e =>
        obtain ⟨dd, e1, rfl⟩ := evP_dat he
        obtain ⟨own, tg, it, ifs, elt, rfl⟩ := mE_lc (show mE nm N sc e (.ListComp a b c d) = true from hm)
        obtain ⟨xs, m1, ds, _, _, _, e4⟩ := ev_lc e1
        cases e4
        exact ps_mono (main hm e1) fun D sg H q => tP_keep sg H _ q
      | lst e =>
        obtain ⟨ds, e1, rfl⟩ := evP_lst he
        exact ps_mono (main (and2 (show (isFr e && mE nm N sc e (.ListComp a b c d)) = true from hm)).2 e1) fun D sg H q => tP_lst sg H _ q
      | dic t => obtain ⟨pos, z⟩ := mP_dic hm; cases z
  · exact ps_set hN hi' hl' pv (sw_else (fun a b c d z => hx ⟨a, b, c, d, z⟩) (mP_nosw hm)) (.inl (hc.fn y))
end
end Lin

set_option maxHeartbeats 2000000
/-! Lin, part Q: every command does what wpS says. -/
namespace Lin
open PySem PySem.Spec PyProof.Rows L2

/-- the ends agree -/
structure Down (K : PySem.W.Frag) (Bk : Hp) (tk : List Addr) (B0 H0 : Hp) (th0 : List Addr) (D : Ends) (De : DE) : Prop where
  nx : ∀ B H th mu rho sg, SS K Bk tk B0 H0 th0 B H th mu rho sg → De.nx rho mu → D.nx sg H
  rt : ∀ v d B H th mu, SRc K B H th mu → Fut B0 H0 th0 B H th → Rep K B th d v → De.rt d mu → D.rt v H
  bk : ∀ B H th mu rho sg, SS K Bk tk B0 H0 th0 B H th mu rho sg → De.bk rho mu → D.bk sg H
  ct : ∀ B H th mu rho sg, SS K Bk tk B0 H0 th0 B H th mu rho sg → De.ct rho mu → D.ct sg H
/-- the function that the def got does what is said of it -/
def HB (X : Cx) (xa : Nat → Addr) (k : Nat) (G : Gam) (Bk : Hp) (tk : List Addr) : Prop := ∀ f clo, G.hb = some (f, clo) → 1 ≤ k ∧ ∃ (F : NdefX.NF) (body : Expr), Bk f = some (LamO f F body) ∧ Hof X.prog X.w X.K X.mg X.base X.fs X.s_0 X.H_0 f 1 (spAt X.K xa Bk tk 1 clo)
theorem HB.later {X : Cx} {xa : Nat → Addr} {k : Nat} {G : Gam} {B B' : Hp} {th th' : List Addr} (h : HB X xa k G B th) (e : Ex B B') (p : th <+: th') : HB X xa k G B' th' := fun f clo hf => by
  obtain ⟨h0, F, body, h1, h2⟩ := h f clo hf
  exact ⟨h0, F, body, e _ _ h1, h2.imp (Nat.le_refl _) fun vs H1 Q E q => q.later e p⟩
def tS (X : Cx) (xa : Nat → Addr) (k : Nat) (G : Gam) (c : Cm) : TS := fun D sg H => ∃ Bk tk, HB X xa k G Bk tk ∧ ∃ B0 H0 th0 rho mu B th De, SS X.K Bk tk B0 H0 th0 B H th mu rho sg ∧ Down X.K Bk tk B0 H0 th0 D De ∧ wpS G c De rho mu

/-! ### values put in -/
theorem dputK {K : PySem.W.Frag} {B : Hp} {th : List Addr} {d : Dat} {v : V} (k : Key) (r : Rep K B th d v) {kvs : List (Dat × Dat)} {ws : List (Key × V)} (h : DRepK K B th kvs ws) : DRepK K B th (dput kvs (keyD k) d) (putK ws k v) := by
  have hany : ∀ {kvs : List (Dat × Dat)} {ws : List (Key × V)}, DRepK K B th kvs ws → (kvs.any fun p => decide (p.1 = keyD k)) = (ws.any fun p => decide (p.1 = k)) := fun {kvs ws} h => by
    induction h with
    | nil => rfl
    | cons r t ih =>
      rw [List.any_cons, List.any_cons, ih]
      congr 1
      rename_i j _ _ _ _
      by_cases e : j = k
      · subst e; simp
      · rw [decide_eq_false e, decide_eq_false fun z => e (keyD_inj z)]
  have hmap : ∀ {kvs : List (Dat × Dat)} {ws : List (Key × V)}, DRepK K B th kvs ws → DRepK K B th (kvs.map fun p => if p.1 = keyD k then (p.1, d) else p) (ws.map fun p => if p.1 = k then (p.1, v) else p) := fun {kvs ws} h => by
    induction h with
    | nil => exact .nil
    | cons r1 t ih =>
      rename_i j d1 v1 _ _
      rw [List.map_cons, List.map_cons]
      by_cases e : j = k
      · subst e
        simp only [if_true]
        exact .cons r ih
      · rw [if_neg (fun z => e (keyD_inj z)), if_neg e]
        exact .cons r1 ih
  have happ : ∀ {kvs : List (Dat × Dat)} {ws : List (Key × V)}, DRepK K B th kvs ws → DRepK K B th (kvs ++ [(keyD k, d)]) (ws ++ [(k, v)]) := fun {kvs ws} h => by
    induction h with
    | nil => exact .cons r .nil
    | cons r1 t ih => exact .cons r1 ih
  unfold dput putK
  rw [hany h]
  split
  · exact hmap h
  · exact happ h
theorem dputT {K : PySem.W.Frag} {B : Hp} {th : List Addr} {d : Dat} {v : V} (k : List Key) (r : Rep K B th d v) {kvs : List (Dat × Dat)} {ws : List (List Key × V)} (h : DRepT K B th kvs ws) : DRepT K B th (dput kvs (.tup (k.map keyD)) d) (putK ws k v) := by
  have inj : ∀ {j : List Key}, Dat.tup (j.map keyD) = .tup (k.map keyD) → j = k := fun z => keyD_map_inj (Dat.tup.inj z)
  have hany : ∀ {kvs : List (Dat × Dat)} {ws : List (List Key × V)}, DRepT K B th kvs ws → (kvs.any fun p => decide (p.1 = .tup (k.map keyD))) = (ws.any fun p => decide (p.1 = k)) := fun {kvs ws} h => by
    induction h with
    | nil => rfl
    | cons r t ih =>
      rw [List.any_cons, List.any_cons, ih]
      congr 1
      rename_i j _ _ _ _
      by_cases e : j = k
      · subst e; simp
      · rw [decide_eq_false e, decide_eq_false fun z => e (inj z)]
  have hmap : ∀ {kvs : List (Dat × Dat)} {ws : List (List Key × V)}, DRepT K B th kvs ws → DRepT K B th (kvs.map fun p => if p.1 = .tup (k.map keyD) then (p.1, d) else p) (ws.map fun p => if p.1 = k then (p.1, v) else p) := fun {kvs ws} h => by
    induction h with
    | nil => exact .nil
    | cons r1 t ih =>
      rename_i j d1 v1 _ _
      rw [List.map_cons, List.map_cons]
      by_cases e : j = k
      · subst e
        simp only [if_true]
        exact .cons r ih
      · rw [if_neg (fun z => e (inj z)), if_neg e]
        exact .cons r1 ih
  have happ : ∀ {kvs : List (Dat × Dat)} {ws : List (List Key × V)}, DRepT K B th kvs ws → DRepT K B th (kvs ++ [(.tup (k.map keyD), d)]) (ws ++ [(k, v)]) := fun {kvs ws} h => by
    induction h with
    | nil => exact .cons r .nil
    | cons r1 t ih => exact .cons r1 ih
  unfold dput putK
  rw [hany h]
  split
  · exact hmap h
  · exact happ h
theorem DRepK.length {K : PySem.W.Frag} {B : Hp} {th : List Addr} {kvs : List (Dat × Dat)} {ws : List (Key × V)} (h : DRepK K B th kvs ws) : ws.length = kvs.length := by
  induction h with
  | nil => rfl
  | cons _ _ ih => rw [List.length_cons, List.length_cons, ih]
theorem DRepT.length {K : PySem.W.Frag} {B : Hp} {th : List Addr} {kvs : List (Dat × Dat)} {ws : List (List Key × V)} (h : DRepT K B th kvs ws) : ws.length = kvs.length := by
  induction h with
  | nil => rfl
  | cons _ _ ih => rw [List.length_cons, List.length_cons, ih]
/-- o[i] = v, lists and dicts -/
def rSetX : TSet := fun o i v H Q => rSetL o i v H Q ∨ rSetD o i v H Q
theorem set_x {X : Cx} (hu : X.A.units + 1 < cLine) : PSet X rSetX := fun pins s σ H o i v ov iv u Q I ro ri rv h => by
  rcases h with h | h
  · exact set_list pins s σ H o i v ov iv u Q I ro ri rv h
  · exact set_dict hu pins s σ H o i v ov iv u Q I ro ri rv h
theorem put_sound {K : PySem.W.Frag} {B H : Hp} {th : List Addr} {c c' : Cell} {o : HO} {a : Addr} {kd d : Dat} {kv v : V} (co : CellOk K B th c o) (hl : H a = some o) (ex : Ex B H) (rk : Rep K B th kd kv) (r : Rep K B th d v) (e : putIx c kd d = some c') :
    ∃ o', CellOk K B th c' o' ∧ ∀ Q : Hp → Prop, Q (upd H a o') → rSetX (.ref a) kv v H Q := by
  cases co with
  | ins0 _ => cases e
  | ins1 _ _ => cases e
  | tab _ _ _ => cases e
  | lst rs =>
    rename_i ds vs
    cases kd with
    | int k =>
      have e' : (place ds.length k).map (fun j => Cell.lst (ds.set j d)) = some c' := e
      cases hp : place ds.length k with
      | none => rw [hp] at e'; cases e'
      | some j =>
        rw [hp] at e'
        cases e'
        cases rk
        exact ⟨_, .lst (rs.set r j), fun Q q => .inl ⟨a, vs, k, j, rfl, rfl, hl, by rw [rs.length]; exact place_ix hp, q⟩⟩
    | _ => cases e
  | dicK rs =>
    rename_i kvs ws
    have e' : (if keyFor false kd = true ∧ kvs.length < cap then some (Cell.dic false (dput kvs kd d)) else none) = some c' := e
    split at e'
    · rename_i hk
      cases e'
      have hf : flatKey kd = true := by
        have := hk.1
        cases kd <;> first | exact this | cases this
      obtain ⟨k, rfl⟩ := flat_key hf
      have hv := rep_key rk
      subst hv
      have hc : (cap : Nat) ≤ sizeLine := cap_le
      exact ⟨_, .dicK (dputK k r rs), fun Q q => .inr ⟨a, _, rfl, DPut.k hl (by rw [rs.length]; omega), q⟩⟩
    · cases e'
  | dicT rs =>
    rename_i kvs ws
    have e' : (if keyFor true kd = true ∧ kvs.length < cap then some (Cell.dic true (dput kvs kd d)) else none) = some c' := e
    split at e'
    · rename_i hk
      cases e'
      cases kd with
      | tup ks =>
        have hf : ks.all flatKey = true := hk.1
        obtain ⟨ks', rfl⟩ := flat_keys hf
        cases rk with
        | tup h1 h2 =>
          have hv := h2.keys
          subst hv
          have hc : (cap : Nat) ≤ sizeLine := cap_le
          exact ⟨_, .dicT (dputT ks' r rs), fun Q q => .inr ⟨a, _, rfl, DPut.t hl (ex _ _ h1) (by rw [rs.length]; omega), q⟩⟩
      | _ => cases hk.1
    · cases e'
theorem mE_assign {nm : Nms} {N : List Str} {sc : Scope} {e : E} {x : Expr} (h : mE nm N sc e x = true) (o : Expr) (pos : Pos) (env : PySem.Env) : ∀ v, assign (.Subscript o x pos) env v = (do
      let ov ← holding [v] (eval o env)
      let iv ← holding [v, ov] (eval x env)
      standAt pos
      holding [v, ov, iv] (setItem ov iv v)
      release [v, ov, iv] []) := by
  intro v
  cases x <;> first | rfl | (cases e <;> exact Bool.noConfusion (show false = true from h))
theorem mP_two {K : PySem.W.Frag} {Hx B H B' H' : Hp} {th th' : List Addr} {s s2 : Slot} {u v : V} (r : StV K Hx B H th s u) (r2 : StV K H B' H' th' s2 v) : ∀ c, s = .own c → ∀ c', s2 = .own c' → u ≠ v := fun c e c' e' z => by
  subst e e' z
  obtain ⟨a, o, rfl, _, _, _, hl, _⟩ := r
  obtain ⟨b, _, e, h0, _⟩ := r2
  cases e
  rw [h0] at hl
  cases hl
theorem NoOwn.set {rho : Env} {sg : L2.St} {i : Nat} {s s2 : Slot} {u v : V} (hl : rho.length = sg.length) (n : NoOwn rho sg s2 v) (d : ∀ c, s = .own c → ∀ c', s2 = .own c' → u ≠ v) : NoOwn (rho.set i (some s)) (sg.set i (some u)) s2 v := fun c' e' j c hj hs => by
  by_cases z : i = j
  · subst z
    have hi : i < rho.length := by
      have := (List.getElem?_eq_some_iff.mp hj).1
      rwa [List.length_set] at this
    rw [List.getElem?_set_self hi] at hj
    rw [List.getElem?_set_self (by rw [← hl]; exact hi)] at hs
    cases hj
    cases hs
    exact d c rfl c' e' rfl
  · rw [List.getElem?_set_ne z] at hj hs
    exact n c' e' j c hj hs
end Lin

set_option maxHeartbeats 2000000
/-! Lin, part R: every command does what wpS says. -/
namespace Lin
open PySem PySem.Spec PyProof.Rows L2
section
variable {nm : Nms} {xa : Nat → Addr} {X : Cx} {N : List Str} {sc : Scope} {k : Nat} {G : Gam}
/-- a command, from the left -/
def CmS (nm : Nms) (xa : Nat → Addr) (X : Cx) (N : List Str) (sc : Scope) (k : Nat) (G : Gam) (c : Cm) : Prop :=
  (∀ st, mS nm N sc c st = true → PS X st (tS X xa k G c)) ∧ ∀ sts, mB nm N sc c sts = true → PSs X sts (tS X xa k G c)
theorem mB_one {c : Cm} (h1 : c ≠ .nil) (h2 : ∀ a b, c ≠ .seq a b) {sts : List Stmt} {P : Prop} (h : mB nm N sc c sts = true) : P := by
  cases c with
  | nil => exact absurd rfl h1
  | seq a b => exact absurd rfl (h2 a b)
  | _ => cases sts <;> exact Bool.noConfusion (show false = true from h)
theorem CmS.of {c : Cm} (h1 : c ≠ .nil) (h2 : ∀ a b, c ≠ .seq a b) (h : ∀ st, mS nm N sc c st = true → PS X st (tS X xa k G c)) : CmS nm xa X N sc k G c :=
  ⟨h, fun sts hs => mB_one h1 h2 hs⟩
theorem cm_nil : CmS nm xa X N sc k G .nil := by
  refine ⟨fun st h => by cases st <;> exact Bool.noConfusion (show false = true from h), fun sts h => ?_⟩
  cases sts with
  | nil => exact pss_mono pss_nil fun D sg H ⟨Bk, tk, zz, B0, H0, th0, rho, mu, B, th, De, ss, dn, w⟩ => dn.nx _ _ _ _ _ _ ss w
  | cons _ _ => exact Bool.noConfusion (show false = true from h)
theorem cm_seq {a b : Cm} (A : CmS nm xa X N sc k G a) (Bb : CmS nm xa X N sc k G b) : CmS nm xa X N sc k G (.seq a b) := by
  refine ⟨fun st h => by cases st <;> exact Bool.noConfusion (show false = true from h), fun sts h => ?_⟩
  by_cases hf : ∃ i, a = .frz i
  · obtain ⟨i, rfl⟩ := hf
    have h' : mB nm N sc b sts = true := by cases sts <;> exact h
    refine pss_mono (Bb.2 sts h') fun D sg H ⟨Bk, tk, zz, B0, H0, th0, rho, mu, B, th, De, ss, dn, w⟩ => ?_
    obtain ⟨ds, e, w⟩ := w
    obtain ⟨B1, s1⟩ := ss.frz e
    exact ⟨Bk, tk, zz, B0, H0, th0, _, mu, B1, th, De, s1, dn, w⟩
  · cases sts with
    | nil => exfalso; cases a <;> first | exact hf ⟨_, rfl⟩ | exact Bool.noConfusion (show false = true from h)
    | cons x st =>
      have h' : (mS nm N sc a x && mB nm N sc b st) = true := by
        cases a <;> first | exact absurd ⟨_, rfl⟩ hf | exact h
      obtain ⟨h1, h2⟩ := and2 h'
      refine pss_mono (pss_cons (A.1 x h1) (Bb.2 st h2)) fun D sg H ⟨Bk, tk, zz, B0, H0, th0, rho, mu, B, th, De, ss, dn, w⟩ => ?_
      exact ⟨Bk, tk, zz, B0, H0, th0, rho, mu, B, th, { De with nx := wpS G b De }, ss, ⟨fun B1 H1 th1 m1 r1 g1 s1 w1 => ⟨Bk, tk, zz, B0, H0, th0, r1, m1, B1, th1, De, s1, dn, w1⟩, dn.rt, dn.bk, dn.ct⟩, w⟩
theorem cm_frz {i : Nat} : CmS nm xa X N sc k G (.frz i) := .of (fun h => nomatch h) (fun _ _ h => nomatch h) fun st h => by cases st <;> exact Bool.noConfusion (show false = true from h)
theorem cm_pass : CmS nm xa X N sc k G .pass := .of (fun h => nomatch h) (fun _ _ h => nomatch h) fun st h => by
  cases st with
  | Pass pos => exact ps_mono ps_pass fun D sg H ⟨Bk, tk, zz, B0, H0, th0, rho, mu, B, th, De, ss, dn, w⟩ => dn.nx _ _ _ _ _ _ ss w
  | _ => exact Bool.noConfusion (show false = true from h)
theorem cm_brk : CmS nm xa X N sc k G .brk := .of (fun h => nomatch h) (fun _ _ h => nomatch h) fun st h => by
  cases st with
  | Break pos => exact ps_mono ps_break fun D sg H ⟨Bk, tk, zz, B0, H0, th0, rho, mu, B, th, De, ss, dn, w⟩ => dn.bk _ _ _ _ _ _ ss w
  | _ => exact Bool.noConfusion (show false = true from h)
theorem cm_cont : CmS nm xa X N sc k G .cont := .of (fun h => nomatch h) (fun _ _ h => nomatch h) fun st h => by
  cases st with
  | Continue pos => exact ps_mono ps_continue fun D sg H ⟨Bk, tk, zz, B0, H0, th0, rho, mu, B, th, De, ss, dn, w⟩ => dn.ct _ _ _ _ _ _ ss w
  | _ => exact Bool.noConfusion (show false = true from h)
theorem cm_never : CmS nm xa X N sc k G .never := .of (fun h => nomatch h) (fun _ _ h => nomatch h) fun st h =>
  ps_mono ps_never fun D sg H ⟨Bk, tk, zz, B0, H0, th0, rho, mu, B, th, De, ss, dn, w⟩ => w.elim
theorem cm_retN : CmS nm xa X N sc k G .retN := .of (fun h => nomatch h) (fun _ _ h => nomatch h) fun st h => by
  cases st with
  | Return o pos =>
    cases o with
    | none => exact ps_mono ps_retN fun D sg H ⟨Bk, tk, zz, B0, H0, th0, rho, mu, B, th, De, ss, dn, w⟩ => dn.rt _ _ _ _ _ _ ss.toSRc ss.fut .non w
    | some x => exact Bool.noConfusion (show false = true from h)
  | _ => exact Bool.noConfusion (show false = true from h)
theorem cm_ret (hc : CtxS X N sc k G nm xa) {e : E} : CmS nm xa X N sc k G (.ret e) := .of (fun h => nomatch h) (fun _ _ h => nomatch h) fun st h => by
  cases st with
  | Return o pos =>
    cases o with
    | none => exact Bool.noConfusion (show false = true from h)
    | some x =>
      refine ⟨fun pins s sg H D I ⟨Bk, tk, zz, B0, H0, th0, rho, mu, B, th, De, ss, dn, d, m1, e1, w⟩ => ?_⟩
      exact (ps_ret ((sound nm xa e).v hc.toCtx h e1)).run pins s sg H D I ⟨B, th, ss.toSR, fun v B' H' th' sc f r => dn.rt v d B' H' th' m1 sc (ss.fut.trans f) r w⟩
  | _ => exact Bool.noConfusion (show false = true from h)
theorem cm_retC (hc : CtxS X N sc k G nm xa) {e : E} : CmS nm xa X N sc k G (.retC e) := .of (fun h => nomatch h) (fun _ _ h => nomatch h) fun st h => by
  cases st with
  | Return o pos =>
    cases o with
    | none => exact Bool.noConfusion (show false = true from h)
    | some x =>
      refine ⟨fun pins s sg H D I ⟨Bk, tk, zz, B0, H0, th0, rho, mu, B, th, De, ss, dn, hf, d, m1, e1, ds, e2, w⟩ => ?_⟩
      subst e2
      refine (ps_ret ((sound nm xa e).f hc.toCtx hf h e1)).run pins s sg H D I ⟨B, th, ss.toSR, fun p vs B' H' th' sc f hn hb hp hl hr => ?_⟩
      have f0 : H0 p = none := ss.fut.dom p hn
      have sc2 := sc.cellNew (c := .lst ds) hb hp hl (.lst hr)
      refine dn.rt (.ref p) _ B' H' _ _ sc2 ((ss.fut.trans f).cellNew f0) (.ref ?_) w
      rw [← sc.len, List.getElem?_append_right (Nat.le_refl _), Nat.sub_self]
      rfl
  | _ => exact Bool.noConfusion (show false = true from h)
theorem pv_at (hc : CtxS X N sc k G nm xa) {i : Nat} {y : Str} {p : Pos} (h1 : N[i]? = some y) (h2 : visB sc y = true) (h3 : plainName y = true) : PE X (.Name y p) (tVar i) := by
  obtain ⟨q1, q2, q3⟩ := plain_of h3
  exact pe_var (by rw [hc.hN]; exact h1) (by rw [hc.hsc]; exact visB_of h2) q1 q2
theorem cm_retO (hc : CtxS X N sc k G nm xa) {i : Nat} : CmS nm xa X N sc k G (.retO i) := .of (fun h => nomatch h) (fun _ _ h => nomatch h) fun st h => by
  cases st with
  | Return o pos =>
    cases o with
    | none => exact Bool.noConfusion (show false = true from h)
    | some x =>
      cases x with
      | Name y p =>
        obtain ⟨h1, h3⟩ := and2 (show (decide (N[i]? = some y) && visB sc y && plainName y) = true from h)
        obtain ⟨h1, h2⟩ := and2 h1
        refine ps_mono (ps_ret (pv_at hc (of_decide_eq_true h1) h2 h3)) fun D sg H ⟨Bk, tk, zz, B0, H0, th0, rho, mu, B, th, De, ss, dn, c, e1, w⟩ => ?_
        obtain ⟨a, o, g1, g2, g3, g4, g5⟩ := ss.own i c e1
        refine ⟨.ref a, g1, ?_⟩
        have sc2 := ss.toSRc.cellNew (c := c) g2 g3 g4 g5
        refine dn.rt (.ref a) _ B H _ _ sc2 (ss.fut.cellNew (ss.fresh i c a e1 g1)) (.ref ?_) w
        rw [← ss.toSRc.len, List.getElem?_append_right (Nat.le_refl _), Nat.sub_self]
        rfl
      | _ => exact Bool.noConfusion (show false = true from h)
  | _ => exact Bool.noConfusion (show false = true from h)
theorem cm_ex (hc : CtxS X N sc k G nm xa) {e : E} : CmS nm xa X N sc k G (.ex e) := .of (fun h => nomatch h) (fun _ _ h => nomatch h) fun st h => by
  cases st with
  | Expr x pos =>
    obtain ⟨h1, h2⟩ := and2 (show (isCl x && mE nm N sc e x) = true from h)
    refine ⟨fun pins s sg H D I ⟨Bk, tk, zz, B0, H0, th0, rho, mu, B, th, De, ss, dn, d, m1, e1, w⟩ => ?_⟩
    have hs : swapsWith x none pos.line X.env = pure false := by
      cases x <;> first | rfl | exact Bool.noConfusion (show false = true from h1)
    exact (ps_expr ((sound nm xa e).v hc.toCtx h2 e1) hs).run pins s sg H D I ⟨B, th, ss.toSR, fun v B' H' th' sc f r => dn.nx _ _ _ _ _ _ (ss.step sc f) w⟩
  | _ => exact Bool.noConfusion (show false = true from h)
theorem inv_if {t : E} {a b : Cm} {st : Stmt} (h : mS nm N sc (.ite t a b) st = true) : ∃ x p q pos, st = .If x p q pos ∧ mE nm N sc t x = true ∧ mB nm N sc a p = true ∧ mB nm N sc b q = true := by
  cases st with
  | If x p q pos =>
    obtain ⟨h1, h3⟩ := and2 (show (mE nm N sc t x && mB nm N sc a p && mB nm N sc b q) = true from h)
    obtain ⟨h1, h2⟩ := and2 h1
    exact ⟨x, p, q, pos, rfl, h1, h2, h3⟩
  | _ => exact Bool.noConfusion (show false = true from h)
theorem cm_ite (hc : CtxS X N sc k G nm xa) {t : E} {a b : Cm} (A : CmS nm xa X N sc k G a) (Bb : CmS nm xa X N sc k G b) : CmS nm xa X N sc k G (.ite t a b) := .of (fun h => nomatch h) (fun _ _ h => nomatch h) fun st h => by
  obtain ⟨x, p, q, pos, rfl, h1, h2, h3⟩ := inv_if h
  refine ⟨fun pins s sg H D I ⟨Bk, tk, zz, B0, H0, th0, rho, mu, B, th, De, ss, dn, c, m1, e1, w⟩ => ?_⟩
  refine (ps_if ((sound nm xa t).t hc.toCtx h1 e1) (A.2 p h2) (Bb.2 q h3)).run pins s sg H D I ⟨B, th, ss.toSR, fun B' H' th' sc f => ?_⟩
  cases c with
  | true => exact iteT ⟨Bk, tk, zz, B0, H0, th0, rho, m1, B', th', De, ss.step sc f, dn, w⟩
  | false => exact iteF ⟨Bk, tk, zz, B0, H0, th0, rho, m1, B', th', De, ss.step sc f, dn, w⟩
def tBx (K : PySem.W.Frag) (G : Gam) (e : E) : TT := fun sg H Q => ∃ rho mu b mu', ev G e rho mu = some (.dat (.bl b), mu') ∧ tTs K rho mu b mu' sg H Q
theorem inv_whl {t : E} {b : Cm} {st : Stmt} (h : mS nm N sc (.whl t b) st = true) : ∃ x p pos, st = .While x p [] pos ∧ mE nm N sc t x = true ∧ mB nm N sc b p = true := by
  cases st with
  | While x p q pos =>
    cases q with
    | nil =>
      obtain ⟨h1, h2⟩ := and2 (show (mE nm N sc t x && mB nm N sc b p) = true from h)
      exact ⟨x, p, pos, rfl, h1, h2⟩
    | cons _ _ => exact Bool.noConfusion (show false = true from h)
  | _ => exact Bool.noConfusion (show false = true from h)
theorem cm_whl (hc : CtxS X N sc k G nm xa) {t : E} {b : Cm} (Bb : CmS nm xa X N sc k G b) : CmS nm xa X N sc k G (.whl t b) := .of (fun h => nomatch h) (fun _ _ h => nomatch h) fun st h => by
  obtain ⟨x, p, pos, rfl, h1, h2⟩ := inv_whl h
  have ht : PT X x (tBx X.K G t) := ⟨fun pins s sg H Q I ⟨rho, mu, b, mu', e1, q⟩ => ((sound nm xa t).t hc.toCtx h1 e1).run pins s sg H Q I q⟩
  refine ps_mono (ps_while hc.pas ht (Bb.2 p h2)) fun D sg H ⟨Bk, tk, zz, B0, H0, th0, rho, mu, B, th, De, ss, dn, Iv, ⟨m0, i0⟩, turn⟩ => ?_
  refine ⟨fun m sg H => ∃ rho mu B th, SS X.K Bk tk B0 H0 th0 B H th mu rho sg ∧ Iv m rho mu, ⟨m0, rho, mu, B, th, ss, i0⟩, ?_⟩
  rintro m sg1 H1 ⟨rho1, mu1, B1, th1, s1, i1⟩
  obtain ⟨c, m2, e2, w⟩ := turn m rho1 mu1 i1
  refine ⟨rho1, mu1, c, m2, e2, B1, th1, s1.toSR, fun B' H' th' sc f => ?_⟩
  cases c with
  | true =>
    refine iteT ⟨_, fun σ' H' z => z, Bk, tk, zz, B0, H0, th0, rho1, m2, B', th', { nx := fun r u => ∃ m', m' < m ∧ Iv m' r u, rt := De.rt, ct := fun r u => ∃ m', m' < m ∧ Iv m' r u, bk := De.nx }, s1.step sc f, ⟨fun B3 H3 th3 m3 r3 g3 s3 w3 => ?_, dn.rt, fun B3 H3 th3 m3 r3 g3 s3 w3 => dn.nx _ _ _ _ _ _ s3 w3, fun B3 H3 th3 m3 r3 g3 s3 w3 => ?_⟩, w⟩
    · obtain ⟨m', hm, w3⟩ := w3
      exact ⟨m', hm, r3, m3, B3, th3, s3, w3⟩
    · obtain ⟨m', hm, w3⟩ := w3
      exact ⟨m', hm, r3, m3, B3, th3, s3, w3⟩
  | false => exact iteF (dn.nx _ _ _ _ _ _ (s1.step sc f) w)
theorem inv_loop {tg : T} {it : E} {b : Cm} {st : Stmt} (h : mS nm N sc (.loop tg it b) st = true) : ∃ t x p pos, st = .For t x p [] pos ∧ mT N sc (fun _ => true) tg t = true ∧ mI nm N sc (isTup tg) it x = true ∧ mB nm N sc b p = true := by
  cases st with
  | For t x p q pos =>
    cases q with
    | nil =>
      obtain ⟨h1, h3⟩ := and2 (show (mT N sc (fun _ => true) tg t && mI nm N sc (isTup tg) it x && mB nm N sc b p) = true from h)
      obtain ⟨h1, h2⟩ := and2 h1
      exact ⟨t, x, p, pos, rfl, h1, h2, h3⟩
    | cons _ _ => exact Bool.noConfusion (show false = true from h)
  | _ => exact Bool.noConfusion (show false = true from h)
theorem cm_loop (hc : CtxS X N sc k G nm xa) {tg : T} {it : E} {b : Cm} (Bb : CmS nm xa X N sc k G b) : CmS nm xa X N sc k G (.loop tg it b) := .of (fun h => nomatch h) (fun _ _ h => nomatch h) fun st h => by
  obtain ⟨t, x, p, pos, rfl, h1, h2, h3⟩ := inv_loop h
  refine ⟨fun pins s sg H D I ⟨Bk, tk, zz, B0, H0, th0, rho, mu, B, th, De, ss, dn, xs, m1, e1, w⟩ => ?_⟩
  refine (ps_for hc.pas hc.calm ((sound nm xa it).i hc.toCtx h2 (isTup_of h1) e1) (pg_of hc.hN hc.nd hc.hsc hc.calm (fun x _ => .inl (hc.fn x)) h1) (Bb.2 p h3) (mI_form h2 _)).run pins s sg H D I ⟨B, th, ss.toSR, fun J B1 H1 th1 s1 f1 ito => ?_⟩
  refine ⟨fun i m sg H => ∃ rho mu B2 th2, SS X.K B1 th1 B0 H0 th0 B2 H th2 mu rho sg ∧ m = xs.length - i ∧ i ≤ xs.length ∧ wFor tg (fun D' => wpS G b D') De (xs.drop i) rho mu, ?_, ?_⟩
  · have st := ss.step s1 f1
    exact ⟨xs.length, rho, m1, B1, th1, { st with kp := .refl _, kt := List.prefix_refl _ }, by omega, Nat.zero_le _, w⟩
  · rintro i m sg2 H2 ⟨rho2, mu2, B2, th2, s2, rfl, hi, w2⟩
    have up : ∀ {B H th mu rho sg}, SS X.K B1 th1 B0 H0 th0 B H th mu rho sg → SS X.K Bk tk B0 H0 th0 B H th mu rho sg := fun z => { z with kp := (ss.kp.trans f1.ex).trans z.kp, kt := (ss.kt.trans f1.pre).trans z.kt }
    by_cases hlt : i < xs.length
    · refine .inr ⟨ito.go i H2 (s2.kp.trans s2.ex) hlt, _, fun σ' H' z => ⟨xs.length - (i + 1), by omega, z⟩, fun v H' y => ?_⟩
      rw [List.drop_eq_getElem_cons hlt] at w2
      obtain ⟨rho3, hb, w3⟩ := w2
      obtain ⟨B3, s3, f3, r3⟩ := ito.step s2.kp s2.kt s2.toSRc (List.getElem?_eq_getElem hlt) y
      obtain ⟨sg4, s4, g4⟩ := (s2.step s3 f3).bind r3 hb
      refine g4 _ ⟨B1, th1, zz.later (ss.kp.trans f1.ex) (ss.kt.trans f1.pre), B0, H0, th0, rho3, mu2, B3, th2, { nx := wFor tg (fun D' => wpS G b D') De (xs.drop (i + 1)), rt := De.rt, ct := wFor tg (fun D' => wpS G b D') De (xs.drop (i + 1)), bk := De.nx }, s4, ⟨fun B5 H5 th5 m5 r5 g5 s5 w5 => ?_, dn.rt, fun B5 H5 th5 m5 r5 g5 s5 w5 => dn.nx _ _ _ _ _ _ (up s5) w5, fun B5 H5 th5 m5 r5 g5 s5 w5 => ?_⟩, w3⟩
      · exact ⟨r5, m5, B5, th5, s5, rfl, hlt, w5⟩
      · exact ⟨r5, m5, B5, th5, s5, rfl, hlt, w5⟩
    · have e0 : i = xs.length := by omega
      subst e0
      rw [List.drop_length] at w2
      exact .inl ⟨ito.stop _ H2 (s2.kp.trans s2.ex) (Nat.le_refl _), dn.nx _ _ _ _ _ _ (up s2) w2⟩
end
end Lin

set_option maxHeartbeats 2000000
/-! Lin, part R2: a def that is handed a lambda; the function that a def got. -/
namespace Lin
open PySem PySem.Spec PyProof.Rows L2 LamX NdefX
section
variable {nm : Nms} {xa : Nat → Addr} {X : Cx} {N : List Str} {sc : Scope} {k : Nat} {G : Gam}
theorem ff {P : Prop} (h : false = true) : P := Bool.noConfusion h
theorem inv_iteH {i : Nat} {e : E} {a : Cm} {st : Stmt} (h : mS nm N sc (.iteH i e a) st = true) : ∃ y yp z cp p pos, st = .If (.Call (.Name y yp) [z] [] cp) p [] pos ∧ N[i]? = some y ∧ visB sc y = true ∧ plainName y = true ∧ mE nm N sc e z = true ∧ mB nm N sc a p = true := by
  cases st with
  | If x p q pos =>
    cases x with
    | Call fn xs ks cp =>
      cases fn with
      | Name y yp =>
        match xs, ks, q, h with
        | [z], [], [], h =>
          obtain ⟨h1, h5⟩ := and2 (show (decide (N[i]? = some y) && visB sc y && plainName y && mE nm N sc e z && mB nm N sc a p) = true from h)
          obtain ⟨h1, h4⟩ := and2 h1
          obtain ⟨h1, h3⟩ := and2 h1
          obtain ⟨h1, h2⟩ := and2 h1
          exact ⟨y, yp, z, cp, p, pos, rfl, of_decide_eq_true h1, h2, h3, h4, h5⟩
        | [], _, _, h => exact ff h
        | _ :: _ :: _, _, _, h => exact ff h
        | [_], _ :: _, _, h => exact ff h
        | [_], [], _ :: _, h => exact ff h
      | _ => exact ff h
    | _ => exact ff h
  | _ => exact ff h
theorem cm_iteH (hc : CtxS X N sc k G nm xa) {i : Nat} {e : E} {a : Cm} (A : CmS nm xa X N sc k G a) : CmS nm xa X N sc k G (.iteH i e a) := .of (fun h => nomatch h) (fun _ _ h => nomatch h) fun st h => by
  obtain ⟨y, yp, z, cp, p, pos, rfl, h1, h2, h3, h4, h5⟩ := inv_iteH h
  refine ⟨fun pins s sg H D I ⟨Bk, tk, zz, B0, H0, th0, rho, mu, B, th, De, ss, dn, d, m1, e1, f, clo, b, m2, e2, e3, e4, w⟩ => ?_⟩
  obtain ⟨k1, F, body, hB, hof⟩ := zz f clo e3
  have pc := pe_hof (p := yp) (pos := cp) (body := body) (F := F) (i := i) hof hc.ex hc.room k1 passL (by rw [hc.hN]; exact h1) (by rw [hc.hsc]; exact visB_of h2) (pa_cons ((sound nm xa e).v hc.toCtx h4 e1) pa_nil ((mE_form h4).1 _ _)) (plain_of h3).1 (plain_of h3).2.1 ((mE_form h4).1 _ _) rfl
  refine (ps_if (pt_val pc) (A.2 p h5) ((cm_nil (nm := nm) (xa := xa) (N := N) (sc := sc) (k := k) (G := G)).2 [] rfl)).run pins s sg H D I ?_
  refine ⟨by obtain ⟨v, g1, g2⟩ := ss.dat i _ e2; cases g2; exact g1, ss.ex _ _ (ss.kp _ _ hB), B, th, ss.toSR, fun v B' H' th' s1 f1 r => ⟨s1.ex _ _ (f1.ex _ _ (ss.kp _ _ hB)), rfl, B', th', m1, [d], _, ss.kp.trans f1.ex, ss.kt.trans f1.pre, s1, .cons r .nil, e4, fun v' B2 H2 th2 s2 f2 r2 => ?_⟩⟩
  cases r2
  refine ⟨b, rfl, ?_⟩
  cases b with
  | true => exact iteT ⟨Bk, tk, zz, B0, H0, th0, rho, m2, B2, th2, De, (ss.step s1 f1).step s2 f2, dn, w⟩
  | false => exact iteF ⟨Bk, tk, zz, B0, H0, th0, rho, m2, B2, th2, De, (ss.step s1 f1).step s2 f2, dn, w⟩

/-! ### a list of one's own: lent, taken over -/
theorem flat_rep {K : PySem.W.Frag} {B B' : Hp} {th th' : List Addr} {d : Dat} {v : V} (h : flatD d = true) (r : Rep K B th d v) : Rep K B' th' d v := by
  cases r with
  | non => exact .non
  | bl b => exact .bl b
  | int i => exact .int i
  | str x => exact .str x
  | tup _ _ => cases h
  | lst _ _ => cases h
  | ref _ => cases h
  | fn _ => cases h
theorem flat_reps {K : PySem.W.Frag} {B B' : Hp} {th th' : List Addr} : ∀ {ds : List Dat} {vs : List V}, ds.all flatD = true → Reps K B th ds vs → Reps K B' th' ds vs
  | _, _, _, .nil => .nil
  | d :: ds, _, h, .cons r t => by
    rw [List.all_cons, Bool.and_eq_true] at h
    exact .cons (flat_rep h.1 r) (flat_reps h.2 t)
/-- a list of one's own, for a while as data -/
theorem SR.lend {K : PySem.W.Frag} {B H : Hp} {th : List Addr} {mu : Store} {rho : Env} {sg : L2.St} {i : Nat} {ds : List Dat} (s : SR K B H th mu rho sg) (e : rho[i]? = some (some (.own (.lst ds)))) :
    ∃ a vs, B a = none ∧ a ∉ th ∧ H a = some (.lst vs) ∧ SR K (upd B a (.lst vs)) H th mu (rho.set i (some (.dat (.lst ds)))) sg := by
  obtain ⟨a, o, h1, h2, h3, h4, h5⟩ := s.own i _ e
  cases h5 with
  | lst r =>
    rename_i vs
    have sc := s.toSRc.keep h4 h2 h3
    have ee : Ex B (upd B a (.lst vs)) := Ex.new h2
    have hi : i < rho.length := (List.getElem?_eq_some_iff.mp e).1
    have key : ∀ {j : Nat} {y : Slot}, (rho.set i (some (Slot.dat (.lst ds))))[j]? = some (some y) → (i = j ∧ y = .dat (.lst ds)) ∨ (i ≠ j ∧ rho[j]? = some (some y)) := fun {j y} h => by
      by_cases z : i = j
      · subst z
        rw [List.getElem?_set_self hi] at h
        cases h
        exact .inl ⟨rfl, rfl⟩
      · rw [List.getElem?_set_ne z] at h
        exact .inr ⟨z, h⟩
    refine ⟨a, vs, h2, h3, h4, sc, by rw [List.length_set]; exact s.sl, fun j d h => ?_, fun j c h => ?_, fun j k c1 c2 b g1 g2 g3 g4 => ?_⟩
    · rcases key h with ⟨z1, z2⟩ | ⟨z1, z2⟩
      · cases z2; subst z1
        exact ⟨_, h1, .lst (.inl (.inl upd_same)) (r.mono ee (List.prefix_refl _))⟩
      · obtain ⟨v, y1, y2⟩ := s.dat j d z2
        exact ⟨v, y1, y2.mono ee (List.prefix_refl _)⟩
    · rcases key h with ⟨z1, z2⟩ | ⟨z1, z2⟩
      · cases z2
      · obtain ⟨b, u, y1, y2, y3, y4, y5⟩ := s.own j c z2
        have ne : b ≠ a := fun z => z1 (s.apart i j _ _ a e z2 h1 (z ▸ y1))
        exact ⟨b, u, y1, by rw [upd_ne ne]; exact y2, y3, y4, y5.mono ee (List.prefix_refl _)⟩
    · rcases key g1 with ⟨_, z⟩ | ⟨_, z1⟩
      · cases z
      · rcases key g2 with ⟨_, z⟩ | ⟨_, z2⟩
        · cases z
        · exact s.apart j k c1 c2 b z1 z2 g3 g4
theorem SRc.unlend {K : PySem.W.Frag} {B H B' H' : Hp} {th th' : List Addr} {mu1 : Store} {a : Addr} {vs : List V} (hB : B a = none) (hH : H a = some (.lst vs)) (s : SRc K B' H' th' mu1) (f : Fut (upd B a (.lst vs)) H th B' H' th') (hf : flatS mu1) :
    ∃ B2, SRc K B2 H' th' mu1 ∧ Fut B H th B2 H' th' := by
  classical
  have hB' : B' a = some (.lst vs) := f.ex a _ upd_same
  have at_ : ∀ x, x ≠ a → (if x = a then none else B' x) = B' x := fun x h => if_neg h
  refine ⟨fun x => if x = a then none else B' x, ⟨fun x o h => ?_, s.len, fun n c hc => ?_, s.nd⟩, ⟨fun x o h => ?_, f.pre, f.fr, f.nw, fun x h => ?_, f.dom, f.tp⟩⟩
  · by_cases z : x = a
    · have h' : (if x = a then none else B' x) = some o := h
      rw [if_pos z] at h'
      cases h'
    · exact s.ex x o ((at_ x z).symm.trans h)
  · obtain ⟨b, o, h1, h2, h3, h4⟩ := s.cell n c hc
    have ne : b ≠ a := fun z => by rw [z, hB'] at h2; cases h2
    refine ⟨b, o, h1, by rw [at_ b ne]; exact h2, h3, ?_⟩
    have fl := hf n c hc
    cases h4 with
    | lst r => exact .lst (flat_reps fl r)
    | tab g1 g2 g3 =>
      refine .tab g1 g2 fun pos cv hcv => ?_
      obtain ⟨c0, y1, y2⟩ := g3 pos cv hcv
      refine ⟨c0, y1, ?_⟩
      have ne0 : c0 ≠ a := fun z => by rw [z, hB'] at y2; exact absurd (Option.some.inj y2) (fun w => by unfold CodeO at w; cases w)
      rw [at_ c0 ne0]
      exact y2
    | dicK _ => cases fl
    | dicT _ => cases fl
    | ins0 _ => cases fl
    | ins1 _ _ => cases fl
  · have ne : x ≠ a := fun z => by rw [z, hB] at h; cases h
    rw [at_ x ne]
    exact f.ex x o (by rw [upd_ne ne]; exact h)
  · by_cases z : x = a
    · exact absurd (if_pos z) h
    · rw [at_ x z] at h
      rcases f.bn x h with q | q
      · rw [upd_ne z] at q
        exact .inl q
      · exact .inr q
theorem inv_iteL {i : Nat} {t : E} {a b : Cm} {st : Stmt} (h : mS nm N sc (.iteL i t a b) st = true) : ∃ x p q pos, st = .If x p q pos ∧ mE nm N sc t x = true ∧ mB nm N sc a p = true ∧ mB nm N sc b q = true := by
  cases st with
  | If x p q pos =>
    obtain ⟨h1, h3⟩ := and2 (show (mE nm N sc t x && mB nm N sc a p && mB nm N sc b q) = true from h)
    obtain ⟨h1, h2⟩ := and2 h1
    exact ⟨x, p, q, pos, rfl, h1, h2, h3⟩
  | _ => exact ff h
theorem cm_iteL (hc : CtxS X N sc k G nm xa) {i : Nat} {t : E} {a b : Cm} (A : CmS nm xa X N sc k G a) (Bb : CmS nm xa X N sc k G b) : CmS nm xa X N sc k G (.iteL i t a b) := .of (fun h => nomatch h) (fun _ _ h => nomatch h) fun st h => by
  obtain ⟨x, p, q, pos, rfl, h1, h2, h3⟩ := inv_iteL h
  refine ⟨fun pins s sg H D I ⟨Bk, tk, zz, B0, H0, th0, rho, mu, B, th, De, ss, dn, ds, e0, c, m1, e1, hfl, w⟩ => ?_⟩
  obtain ⟨a0, vs, g1, g2, g3, sl⟩ := ss.toSR.lend e0
  refine (ps_if ((sound nm xa t).t hc.toCtx h1 e1) (A.2 p h2) (Bb.2 q h3)).run pins s sg H D I ⟨_, th, sl, fun B' H' th' sc f => ?_⟩
  obtain ⟨B2, s2, f2⟩ := SRc.unlend g1 g3 sc f hfl
  cases c with
  | true => exact iteT ⟨Bk, tk, zz, B0, H0, th0, rho, m1, B2, th', De, ss.step s2 f2, dn, w⟩
  | false => exact iteF ⟨Bk, tk, zz, B0, H0, th0, rho, m1, B2, th', De, ss.step s2 f2, dn, w⟩
theorem inv_asgC {i : Nat} {e : E} {st : Stmt} (h : mS nm N sc (.asgC i e) st = true) : ∃ y py x pos, st = .Assign [.Name y py] x pos ∧ N[i]? = some y ∧ locB sc y = true ∧ isCl x = true ∧ mE nm N sc e x = true := by
  cases st with
  | Assign ts x pos =>
    cases ts with
    | nil => exact ff h
    | cons t r =>
      cases r with
      | cons _ _ => cases t <;> exact ff h
      | nil =>
        cases t with
        | Name y py =>
          obtain ⟨h1, h4⟩ := and2 (show (decide (N[i]? = some y) && locB sc y && isCl x && mE nm N sc e x) = true from h)
          obtain ⟨h1, h3⟩ := and2 h1
          obtain ⟨h1, h2⟩ := and2 h1
          exact ⟨y, py, x, pos, rfl, of_decide_eq_true h1, h2, h3, h4⟩
        | _ => exact ff h
  | _ => exact ff h
/-- the last cell is taken over -/
theorem SS.take {K : PySem.W.Frag} {Bk : Hp} {tk : List Addr} {B0 H0 B B' H H' : Hp} {th0 th th' : List Addr} {mu mu0 : Store} {rho : Env} {sg : L2.St} {i : Nat} {ds : List Dat} {v : V} (ss : SS K Bk tk B0 H0 th0 B H th mu rho sg) (s' : SRc K B' H' th' (mu0 ++ [.lst ds])) (f : Fut B H th B' H' th') (hl : mu.length ≤ mu0.length) (hf : flatS (mu0 ++ [.lst ds])) (r : Rep K B' th' (.ref mu0.length) v) :
    ∃ th2, SS K Bk tk B0 H0 th0 B' H' th2 mu0 (rho.set i (some (.own (.lst ds)))) (sg.set i (some v)) := by
  cases r with
  | ref hr =>
    rename_i a
    have hlen := s'.len
    rw [List.length_append, List.length_singleton] at hlen
    have hpre : th <+: th'.take mu0.length := by
      have h1 := f.pre
      have h2 := ss.len
      rw [List.prefix_take_iff]
      exact ⟨h1, by omega⟩
    have hat : ∀ n, n < mu0.length → (th'.take mu0.length)[n]? = th'[n]? := fun n hn => List.getElem?_take_of_lt hn
    have hno : a ∉ th'.take mu0.length := fun z => by
      obtain ⟨n, hn⟩ := List.mem_iff_getElem?.mp z
      have hn1 : n < mu0.length := by
        have := (List.getElem?_eq_some_iff.mp hn).1
        rw [List.length_take] at this
        omega
      rw [hat n hn1] at hn
      have := nodup_at s'.nd hn hr
      omega
    obtain ⟨a2, o, q1, q2, q3, q4⟩ := s'.cell mu0.length (.lst ds) (by rw [List.getElem?_append_right (Nat.le_refl _), Nat.sub_self]; rfl)
    rw [hr] at q1
    cases q1
    have hin : a ∈ th' := List.mem_of_getElem? hr
    have hnth : a ∉ th := fun z => hno (hpre.subset z)
    have hH : H a = none := (f.nw a hin).resolve_left hnth
    have sc2 : SRc K B' H' (th'.take mu0.length) mu0 := by
      refine ⟨s'.ex, by rw [List.length_take]; omega, fun n c hc => ?_, s'.nd.sublist (List.take_sublist _ _)⟩
      have hn : n < mu0.length := (List.getElem?_eq_some_iff.mp hc).1
      have hc' : (mu0 ++ [Cell.lst ds])[n]? = some c := by rw [List.getElem?_append_left hn]; exact hc
      obtain ⟨b, u, y1, y2, y3, y4⟩ := s'.cell n c hc'
      refine ⟨b, u, by rw [hat n hn]; exact y1, y2, y3, ?_⟩
      have fl := hf n c hc'
      cases y4 with
      | lst r => exact .lst (flat_reps fl r)
      | tab g1 g2 g3 =>
        have en : _ = n := beq_iff_eq.mp fl
        exact .tab (by rw [en] at g1 ⊢; rw [hat n hn]; exact g1) g2 g3
      | dicK _ => cases fl
      | dicT _ => cases fl
      | ins0 _ => cases fl
      | ins1 _ _ => cases fl
    have f2 : Fut B H th B' H' (th'.take mu0.length) := ⟨f.ex, hpre, f.fr, fun b hb => f.nw b ((List.take_subset _ _) hb), f.bn, f.dom, f.tp⟩
    have fl := hf mu0.length (.lst ds) (by rw [List.getElem?_append_right (Nat.le_refl _), Nat.sub_self]; rfl)
    cases q4 with
    | lst r =>
      have sv : StV K H B' H' (th'.take mu0.length) (.own (.lst ds)) (.ref a) := ⟨a, _, rfl, hH, q2, hno, q3, .lst (flat_reps fl r)⟩
      exact ⟨_, (ss.step sc2 f2).setS sv (ss.toSR.noOwn sv) ss.fut.dom⟩
theorem cm_asgC (hc : CtxS X N sc k G nm xa) {i : Nat} {e : E} : CmS nm xa X N sc k G (.asgC i e) := .of (fun h => nomatch h) (fun _ _ h => nomatch h) fun st h => by
  obtain ⟨y, py, x, pos, rfl, h1, h2, h3, h4⟩ := inv_asgC h
  refine ⟨fun pins s sg H D I ⟨Bk, tk, zz, B0, H0, th0, rho, mu, B, th, De, ss, dn, mu0, ds, e1, hle, hfl, w⟩ => ?_⟩
  have hn : ∀ a b c d, x ≠ .ListComp a b c d := fun a b c d z => by subst z; cases h3
  refine (ps_set (by rw [hc.hN]; exact hc.nd) (by rw [hc.hN]; exact h1) (by rw [hc.hsc]; exact locB_of h2) ((sound nm xa e).v hc.toCtx h4 e1) (sw_else hn (mE_nosw h4)) (.inl (hc.fn y))).run pins s sg H D I ⟨B, th, ss.toSR, fun v B' H' th' s1 f r => ?_⟩
  obtain ⟨th2, s2⟩ := ss.take (i := i) s1 f hle hfl r
  exact dn.nx _ _ _ _ _ _ s2 w

/-! ### a lambda handed over -/
theorem GOk.bare {P : Program} {w : World} {K : PySem.W.Frag} {mg : Str → Option Value} {base : Heap} {j : Nat} (g : GOk P w K mg base k G nm xa) : GOk P w K mg base j G.bare nm xa :=
  ⟨fun _ _ h => (nomatch h), g.gc, g.bt, fun _ _ h => (nomatch h), g.ed, fun _ _ h => (nomatch h), fun _ _ h => (nomatch h)⟩
theorem pa_snoc (hc : Ctx X N sc k G nm xa) {l : Expr} {tl : TE} (hl : PE X l tl) (hlf : ∀ es env, starEach (l :: es) env = (false, eval l env) :: starEach es env) : ∀ {as : E} {xs : List Expr} {rho : Env} {mu mu' : Store} {ds : List Dat}, mEs nm N sc as xs = true → evA G as rho mu = some (ds, mu') →
    PA X (xs ++ [l]) (fun sg H Q => ∃ B th, SR X.K B H th mu rho sg ∧ ∀ vs B' H' th', SRc X.K B' H' th' mu' → Fut B H th B' H' th' → Reps X.K B' th' ds vs → tl sg H' fun v H2 => Q (vs ++ [v]) H2) := by
  intro as xs
  induction xs generalizing as with
  | nil =>
    intro rho mu mu' ds h e
    have ha := mEs_nil h
    subst ha
    cases e
    refine ⟨fun pos pins s σ H Q I ⟨B, th, sr, q⟩ => (pa_cons hl pa_nil (hlf _ _)).run pos pins s σ H Q I ?_⟩
    exact q [] B H th sr.toSRc (.refl _ _ _) .nil
  | cons x xs ih =>
    intro rho mu mu' ds h e
    obtain ⟨a, r, rfl, h1, h2⟩ := mEs_cons h
    obtain ⟨d, m1, e1, e2⟩ := bdD_inv e
    obtain ⟨ds', m2, e3, e4⟩ := bd_inv e2
    cases e4
    refine ⟨fun pos pins s σ H Q I ⟨B, th, sr, q⟩ => (pa_cons ((sound nm xa a).v hc h1 e1) (ih h2 e3) ((mE_form h1).1 _ _)).run pos pins s σ H Q I ?_⟩
    refine ⟨B, th, sr, fun v B1 H1 th1 s1 f1 r1 => ⟨B1, th1, sr.fut s1 f1, fun vs B2 H2 th2 s2 f2 r2 => ?_⟩⟩
    exact q (v :: vs) B2 H2 th2 s2 (f1.trans f2) (.cons (Rep.mono f2.ex f2.pre r1) r2)
theorem snoc_plain {env : PySem.Env} {pos : Pos} {l : Expr} (hlf : ∀ es env, starEach (l :: es) env = (false, eval l env) :: starEach es env) : ∀ {xs : List Expr} {e : E}, mEs nm N sc e xs = true → (backTo pos (starEach (xs ++ [l]) env)).any (·.1) = false
  | [], _, _ => by rw [List.nil_append, hlf]; rfl
  | x :: xs, e, h => by
    obtain ⟨a, r, rfl, h1, h2⟩ := mEs_cons h
    rw [List.cons_append, (mE_form h1).1]
    have ih := snoc_plain (env := env) (pos := pos) hlf h2
    unfold backTo at ih ⊢
    rw [List.map_cons, List.any_cons]
    exact ih
theorem vals_snoc : ∀ {vs : List V} {v : V} {us : List Value}, Vals (vs ++ [v]) us → ∃ us0 u, us = us0 ++ [u] ∧ Vals vs us0 ∧ L2.RelV v u
  | [], v, us, h => by
    cases h with
    | cons r t => cases t; exact ⟨[], _, rfl, .nil, r⟩
  | x :: xs, v, us, h => by
    cases h with
    | cons r t =>
      obtain ⟨us0, u, rfl, h1, h2⟩ := vals_snoc t
      exact ⟨_ :: us0, u, rfl, .cons r h1, h2⟩
/-- a cell's object is another, the cell the same -/
theorem SRc.same {K : PySem.W.Frag} {B H : Hp} {th : List Addr} {mu : Store} {n : Nat} {c : Cell} {a : Addr} {o o' : HO} (s : SRc K B H th mu) (e : mu[n]? = some c) (ha : th[n]? = some a) (hH : H a = some o) (co : CellOk K B th c o) (co' : CellOk K B th c o') : SRc K B (upd H a o') th mu ∧ Fut B H th B (upd H a o') th := by
  have hm : a ∈ th := List.mem_of_getElem? ha
  obtain ⟨a2, o2, q1, q2, q3, q4⟩ := s.cell n c e
  rw [ha] at q1
  cases q1
  refine ⟨⟨s.ex.updR q2, s.len, fun m c2 hc => ?_, s.nd⟩, ⟨.refl _, List.prefix_refl _, fun b u y1 y2 => ?_, fun _ h => .inl h, fun _ h => .inl h, fun b hb => ?_, fun b vs hb => ?_⟩⟩
  · by_cases z : n = m
    · subst z
      rw [e] at hc
      cases hc
      exact ⟨a, o', ha, q2, upd_same, co'⟩
    · obtain ⟨b, u, y1, y2, y3, y4⟩ := s.cell m c2 hc
      have ne : b ≠ a := fun w => by
        subst w
        exact z (nodup_at s.nd ha y1)
      exact ⟨b, u, y1, y2, by rw [upd_ne ne]; exact y3, y4⟩
  · rw [upd_ne (fun w => y2 (by rw [w]; exact hm))]
    exact y1
  · by_cases w : b = a
    · subst w; rw [upd_same] at hb; cases hb
    · rw [upd_ne w] at hb; exact hb
  · by_cases w : b = a
    · subst w
      rw [upd_same] at hb
      exact absurd (Option.some.inj hb) (co'.notup vs)
    · rw [upd_ne w] at hb; exact .inr hb
/-- the frame of a lambda -/
theorem lam_SR {K : PySem.W.Frag} {B B3 H H3 : Hp} {th th3 : List Addr} {mu mu3 : Store} {rho : Env} {sg : L2.St} {js : List Nat} {N' : List Str} {ds : List Dat} {vs : List V} (sr : SR K B H th mu rho sg) (e2 : Ex B B3) (p2 : th <+: th3) (s3 : SRc K B3 H3 th3 mu3) (rs : Reps K B3 th3 ds vs) (hl : N'.length = ds.length + js.length) :
    SR K B3 H3 th3 mu3 (ds.map (fun d => some (.dat d)) ++ js.map (capS rho)) (startF N' vs (js.map (slotAt sg))) := by
  have hv := rs.length
  have hnone : N'.length - vs.length - (js.map (slotAt sg)).length = 0 := by rw [List.length_map]; omega
  have est : startF N' vs (js.map (slotAt sg)) = vs.map some ++ js.map (slotAt sg) := by
    unfold startF
    rw [hnone, List.replicate_zero, List.append_nil]
  rw [est]
  have cap : ∀ {j : Nat} {x : Slot}, capS rho j = some x → ∃ d, x = .dat d ∧ rho[j]? = some (some (.dat d)) := fun {j x} h => by
    unfold capS at h
    split at h
    · rename_i d e
      cases h
      exact ⟨d, rfl, e⟩
    · cases h
  have key : ∀ {i : Nat} {x : Slot}, (ds.map (fun d => some (Slot.dat d)) ++ js.map (capS rho))[i]? = some (some x) → (∃ d, x = .dat d ∧ ds[i]? = some d) ∨ (ds.length ≤ i ∧ ∃ j d, x = .dat d ∧ js[i - ds.length]? = some j ∧ rho[j]? = some (some (.dat d))) := fun {i x} h => by
    by_cases z : i < ds.length
    · rw [List.getElem?_append_left (by rw [List.length_map]; exact z), List.getElem?_map] at h
      cases q : ds[i]? with
      | none => rw [q] at h; cases h
      | some d => rw [q] at h; cases h; exact .inl ⟨d, rfl, rfl⟩
    · rw [List.getElem?_append_right (by rw [List.length_map]; omega), List.length_map, List.getElem?_map] at h
      cases q : js[i - ds.length]? with
      | none => rw [q] at h; cases h
      | some j =>
        rw [q] at h
        obtain ⟨d, rfl, e⟩ := cap (Option.some.inj h)
        exact .inr ⟨Nat.le_of_not_lt z, j, d, rfl, rfl, e⟩
  refine ⟨s3, ?_, fun i d h => ?_, fun i c h => ?_, fun i j c c' a h _ _ _ => ?_⟩
  · rw [List.length_append, List.length_append, List.length_map, List.length_map, List.length_map, List.length_map, hv]
  · rcases key h with ⟨d', e, q⟩ | ⟨hle, j, d', e, q, q2⟩
    · cases e
      obtain ⟨v, h1, h2⟩ := rs.get q
      refine ⟨v, ?_, h2⟩
      rw [List.getElem?_append_left (by rw [List.length_map]; exact (List.getElem?_eq_some_iff.mp h1).1), List.getElem?_map, h1]
      rfl
    · cases e
      obtain ⟨v, h1, h2⟩ := sr.dat j d q2
      refine ⟨v, ?_, h2.mono e2 p2⟩
      rw [List.getElem?_append_right (by rw [List.length_map]; omega), List.length_map, hv, List.getElem?_map, q]
      show some (slotAt sg j) = _
      rw [slotAt_of h1]
  · rcases key h with ⟨d', e, q⟩ | ⟨_, _, _, e, _⟩ <;> cases e
  · rcases key h with ⟨d', e, q⟩ | ⟨_, _, _, e, _⟩ <;> cases e
theorem inv_mL {g : Nat} {as : E} {js : List Nat} {lam : E} {x : Expr} (h : mL nm N sc g as js lam x = true) : ∃ p xs ps b lsc lp pos l, x = .Call (.Name (nm.fn g) p) (xs ++ [.Lambda ps b lsc lp]) [] pos ∧ lamPs ps = some l ∧ glB sc (nm.fn g) = true ∧ plainName (nm.fn g) = true ∧ l.length = 1 ∧ mEs nm N sc as xs = true ∧
    (∀ j ∈ js, j < N.length) ∧ nscB (l ++ js.map fun j => N.getD j "") l (js.map fun j => N.getD j "") lsc = true ∧ ndefB sc lsc (js.map fun j => N.getD j "") = true ∧ mE nm (l ++ js.map fun j => N.getD j "") lsc lam b = true := by
  unfold mL at h
  split at h
  · rename_i y p xs ps b lsc lp pos ea
    split at h
    · rename_i l el
      obtain ⟨h, h9⟩ := and2 h
      obtain ⟨h, h8⟩ := and2 h
      obtain ⟨h, h7⟩ := and2 h
      obtain ⟨h, h6⟩ := and2 h
      obtain ⟨h, h5⟩ := and2 h
      obtain ⟨h, h4⟩ := and2 h
      obtain ⟨h, h3⟩ := and2 h
      obtain ⟨h, h2⟩ := and2 h
      have e := of_decide_eq_true h
      subst e
      exact ⟨p, xs, ps, b, lsc, lp, pos, l, asL_inv ea, el, h2, h3, of_decide_eq_true h9, h4, fun j hj => of_decide_eq_true (List.all_eq_true.mp h5 j hj), h6, h7, h8⟩
    · cases h
  · cases h
theorem lam_form (ps : Arguments) (b : Expr) (lsc : Scope) (lp : Pos) : ∀ es env, starEach (.Lambda ps b lsc lp :: es) env = (false, eval (.Lambda ps b lsc lp) env) :: starEach es env := fun _ _ => rfl
/-- g(.., lambda ..: b) -/
theorem pe_lcall (hc : CtxS X N sc k G nm xa) {g : Nat} {as : E} {js : List Nat} {lam : E} {x : Expr} (hm : mL nm N sc g as js lam x = true) {rho : Env} {mu mu1 mu2 : Store} {ds : List Dat} {n : Nat} {P : Addr} {q : Str} {HF : Addr → Fn → Fn} {d : Dat}
    (e1 : evA G as rho mu = some (ds, mu1)) (e2 : G.tb = some (n, P, q)) (e3 : mu1[n]? = some (.tab n P q)) (e4 : G.hf g = some HF) (e5 : ds.length + 1 = G.ar g) (e6 : ∀ f, HF f (cloOf G js lam rho) ds mu1 = some (.ok d mu2)) : PE X x (tV X.K rho mu (.dat d) mu2) := by
  obtain ⟨p, xs, ps, body, lsc, lp, pos, l, rfl, hl, h1, h2, hl1, h3, hj, h4, h5, h6⟩ := inv_mL hm
  obtain ⟨a, k1, k2, HFk⟩ := hc.g.hf g HF e4
  obtain ⟨hq, c, TB, hcode⟩ := hc.tbk n P q e2
  obtain ⟨hdef, hbind⟩ := lamPs_ok hl
  have hfree : ∀ y ∈ lsc.names, y.2 = .free → X.env.scope.names.lookup y.1 = some .cell ∨ X.env.scope.names.lookup y.1 = some .free := by rw [hc.hsc]; exact ndef_free h5
  have mk := pe_mk (pos := lp) (body := body) TB hcode (hdef X.env) hfree
  rw [hq] at mk
  have PAx := pa_snoc hc.toCtx mk (lam_form ps body lsc lp) h3 e1
  have S := nscope_by h4
  have hjs : js.map (fun j => X.N[j]?) = (js.map fun j => N.getD j "").map some := by
    rw [List.map_map]
    refine List.map_congr_left fun j hm => ?_
    rw [hc.hN]
    show N[j]? = some (N.getD j "")
    rw [List.getD_eq_getElem?_getD, List.getElem?_eq_getElem (hj j hm)]
    rfl
  refine ⟨fun pins s σ H Q I h => ?_⟩
  obtain ⟨B, th, sr, hQ⟩ := h
  refine wpAny_Call_Name_kw (ld_glob I (gl_of hc.toCtx h1) k1 ?_ (plain_of h2).1)
  have hne : ∃ e es, xs ++ [.Lambda ps body lsc lp] = e :: es ∧ starEach (e :: es) X.env = (false, eval e X.env) :: starEach es X.env ∧ (backTo pos (starEach es X.env)).any (·.1) = false := by
    cases xs with
    | nil => exact ⟨_, _, rfl, lam_form _ _ _ _ _ _, rfl⟩
    | cons y ys =>
      obtain ⟨a', r', rfl, g1, g2⟩ := mEs_cons h3
      exact ⟨_, _, rfl, (mE_form g1).1 _ _, snoc_plain (lam_form _ _ _ _) g2⟩
  obtain ⟨e0, es0, eeq, hstar, hpl⟩ := hne
  have run := PAx.run pos pins s σ H (fun vs H1 => ∃ vs0 f c' B2 th2, vs = vs0 ++ [.ref f] ∧ SRc X.K B2 H1 th2 mu1 ∧ Fut B H th B2 H1 th2 ∧ Reps X.K B2 th2 ds vs0 ∧ B2 f = some (LamO f ⟨"<lambda>", q, ps, [], lsc, cloFrom X.env.cells lsc.names [], c'⟩ body) ∧ B2 c' = some (CodeO c' q)) I ⟨B, th, sr, fun vs B' H' th' s' f' r' => ?_⟩
  · rw [eeq] at run ⊢
    refine PySem.W.callWith_K (h₀ := X.base) I.ok.mod.kin k2 (thn run fun us s1 ⟨vs, H1, I1, rv, vs0, f, c', B2, th2, evs, s2, f2, r2, b1, b2⟩ => ⟨I1.kIn, ?_⟩) hstar hpl
    subst evs
    obtain ⟨us0, u, rfl, rv0, ru⟩ := vals_snoc rv
    obtain rfl : u = Value.ref f := ru
    have C := cells_of I1 (Caps.made (scope := lsc) (fr := js.map fun j => N.getD j "") (js := js) I1.ok hfree (ndef_fr h5) hjs)
    refine wpAny_call (codeAny_mono (HFk.run X.A X.stack s1 H1 f _ body (cloOf G js lam rho) ds us0 vs0 B2 th2 mu1 _ Q E0 hc.room I1.env0 rv0 s2 r2 e5 b1 (fun A1 outer1 s3 H3 us3 vs3 Q3 E3 hr3 e03 un3 rv3 sp3 => ?_) (e6 f) ?_) fun r s' hq => ?_)
    · obtain ⟨hl3, B3, th3, mu3, ds3, r3, x3, p3, sc3, rs3, he3, hend⟩ := sp3
      unfold cloOf at he3
      split at he3
      · rename_i d3 mu4 hev
        cases he3
        refine clo_run (t := tV X.K (ds3.map (fun d => some (.dat d)) ++ js.map (capS rho)) mu3 (.dat d3) mu4) S (fun pm ctv us hu => hbind _ _ _ _ _ _ _ _ _ hu) C un3 (sc3.ex _ _ (x3 _ _ b1)) (sc3.ex _ _ (x3 _ _ b2)) e03 hr3 rv3 (by rw [hl1]; exact hl3) (fun hr4 => ?_) ?_
        · exact (sound nm xa lam).v (k := 0) (G := G.bare) ⟨rfl, S.nd, rfl, rfl, hr4, hc.g.bare⟩ h6 hev
        · refine ⟨B3, th3, lam_SR sr (f2.ex.trans x3) (f2.pre.trans p3) sc3 rs3 ?_, fun v B4 H4 th4 s4 f4 r4 => hend v B4 H4 th4 s4 f4 r4⟩
          rw [List.length_append, List.length_map, hl1, ← hl3, rs3.length]
      · cases he3
    · exact fun v B3 H3 th3 s3 f3 r3 => hQ v B3 H3 th3 s3 (f2.trans f3) r3
    · cases r with
      | error e => exact passL pins σ H1 s1 e s' I1 hq
      | ok fl =>
        cases fl with
        | ret u => exact I1.after hq
        | next => exact False.elim hq
        | brk => exact False.elim hq
        | cont => exact False.elim hq
  · obtain ⟨a', o, t1, t2, t3, t4⟩ := s'.cell n _ e3
    cases t4 with
    | tab hP htr hcs =>
      rename_i tps
      rw [t1] at hP
      cases hP
      refine ⟨tps, t3, ⟨htr, fun ps' cv hcv => ?_⟩, fun f c' hco ⟨ps', hin⟩ hf => ?_, fun f c' ps' nc nf ne nP htr' hcs' => ?_⟩
      · obtain ⟨c0, g1, g2⟩ := hcs ps' cv hcv
        exact ⟨c0, g1, s'.ex _ _ g2⟩
      · obtain ⟨c0, g1, g2⟩ := hcs ps' _ hin
        cases g1
        have ee := Ex.new (o := LamO f ⟨"<lambda>", q, ps, [], lsc, cloFrom X.env.cells lsc.names [], c'⟩ body) (s'.ex.nn hf)
        exact ⟨vs, f, c', _, th', rfl, s'.new hf, f'.trans (Fut.new s'.ex hf), r'.mono ee (List.prefix_refl _), upd_same, ee _ _ g2⟩
      · have s1 := s'.new (o := CodeO c' q) nc
        have f1 := Fut.new (th := th') (o := CodeO c' q) s'.ex nc
        have ee1 := Ex.new (o := CodeO c' q) (s'.ex.nn nc)
        have hPc : P ≠ c' := ne_of_none t3 nc
        obtain ⟨s2, f2⟩ := s1.same (o := .tbl tps) (o' := .tbl ps') e3 t1 (by rw [upd_ne hPc]; exact t3) (.tab t1 htr fun p1 cv hcv => by
          obtain ⟨c0, g1, g2⟩ := hcs p1 cv hcv
          exact ⟨c0, g1, ee1 _ _ g2⟩) (.tab t1 htr' fun p1 cv hcv => by
          rcases hcs' p1 cv hcv with z | z
          · obtain ⟨c0, g1, g2⟩ := hcs p1 cv z
            exact ⟨c0, g1, ee1 _ _ g2⟩
          · exact ⟨c', z, upd_same⟩)
        have nf2 : (upd (upd H' c' (CodeO c' q)) P (.tbl ps')) f = none := by rw [upd_ne nP, upd_ne ne]; exact nf
        have ee := Ex.new (o := LamO f ⟨"<lambda>", q, ps, [], lsc, cloFrom X.env.cells lsc.names [], c'⟩ body) (s2.ex.nn nf2)
        refine ⟨vs, f, c', _, th', rfl, s2.new nf2, ((f'.trans f1).trans f2).trans (Fut.new s2.ex nf2), (r'.mono ee1 (List.prefix_refl _)).mono ee (List.prefix_refl _), upd_same, ee _ _ upd_same⟩
theorem cm_retL (hc : CtxS X N sc k G nm xa) {g : Nat} {as : E} {js : List Nat} {lam : E} {ix : Option Int} : CmS nm xa X N sc k G (.retL g as js lam ix) := .of (fun h => nomatch h) (fun _ _ h => nomatch h) fun st h => by
  cases st with
  | Return o pos =>
    cases o with
    | none => exact ff h
    | some x =>
      have h' : mLx nm N sc g as js lam ix x = true := h
      refine ⟨fun pins s sg H D I ⟨Bk, tk, zz, B0, H0, th0, rho, mu, B, th, De, ss, dn, ds, m1, n, P, q, HF, d, m2, d', e1, e2, e3, e4, e5, e6, e7, w⟩ => ?_⟩
      cases ix with
      | none =>
        obtain rfl : d' = d := e7
        exact (ps_ret (pe_lcall hc (show mL nm N sc g as js lam x = true from h') e1 e2 e3 e4 e5 e6)).run pins s sg H D I ⟨B, th, ss.toSR, fun v B' H' th' s1 f1 r => dn.rt v _ B' H' th' _ s1 (ss.fut.trans f1) r w⟩
      | some i =>
        obtain ⟨xs, rfl, hat⟩ := e7
        cases x with
        | Subscript y z sp =>
          cases z with
          | Constant cv j cp =>
            cases cv with
            | int jj =>
              obtain ⟨g1, g2⟩ := and2 (show (decide (i = jj) && mL nm N sc g as js lam y) = true from h')
              have e := of_decide_eq_true g1
              subst e
              refine (ps_ret (pe_ix ix_tup (pe_lcall hc g2 e1 e2 e3 e4 e5 e6) pe_int (fun _ _ => rfl))).run pins s sg H D I ⟨B, th, ss.toSR, fun v B' H' th' s1 f1 r => ?_⟩
              cases r with
              | tup y1 y2 =>
                obtain ⟨v', y3, y4⟩ := at_sound y2 hat
                exact ⟨_, _, i, v', rfl, rfl, .inl (.inl (s1.ex _ _ y1)), y3, dn.rt v' _ B' H' th' _ s1 (ss.fut.trans f1) y4 w⟩
            | _ => exact ff h'
          | _ => exact ff h'
        | _ => exact ff h'
  | _ => exact ff h
end
end Lin

set_option maxHeartbeats 2000000
/-! Lin, part S: the stores; every command is sound. -/
namespace Lin
open PySem PySem.Spec PyProof.Rows L2
section
variable {nm : Nms} {xa : Nat → Addr} {X : Cx} {N : List Str} {sc : Scope} {k : Nat} {G : Gam}
theorem sw_sole {x t : Expr} {l : Nat} {env : PySem.Env} (h : ∀ a b, t ≠ .Name a b) (h2 : isSD x = false) : swapsWithSole [t] x l env = pure false := sw_nonName h h2
theorem inv_asg {i : Nat} {p : P} {st : Stmt} (h : mS nm N sc (.asg i p) st = true) : ∃ y py x pos, st = .Assign [.Name y py] x pos ∧ N[i]? = some y ∧ locB sc y = true ∧ mP nm N sc p x = true := by
  cases st with
  | Assign ts x pos =>
    cases ts with
    | nil => exact ff h
    | cons t r =>
      cases r with
      | cons _ _ => cases t <;> exact ff h
      | nil =>
        cases t with
        | Name y py =>
          obtain ⟨h1, h3⟩ := and2 (show (decide (N[i]? = some y) && locB sc y && mP nm N sc p x) = true from h)
          obtain ⟨h1, h2⟩ := and2 h1
          exact ⟨y, py, x, pos, rfl, of_decide_eq_true h1, h2, h3⟩
        | _ => exact ff h
  | _ => exact ff h
theorem cm_asg (hc : CtxS X N sc k G nm xa) {i : Nat} {p : P} : CmS nm xa X N sc k G (.asg i p) := .of (fun h => nomatch h) (fun _ _ h => nomatch h) fun st h => by
  obtain ⟨y, py, x, pos, rfl, h1, h2, h3⟩ := inv_asg h
  refine ⟨fun pins s sg H D I ⟨Bk, tk, zz, B0, H0, th0, rho, mu, B, th, De, ss, dn, x1, m1, e1, w⟩ => ?_⟩
  refine (ps_asgV hc h1 h2 h3 e1).run pins s sg H D I ⟨B, th, ss.toSR, fun v B' H' th' sc f r => ?_⟩
  exact dn.nx _ _ _ _ _ _ ((ss.step sc f).setS r (ss.toSR.noOwn r) ss.fut.dom) w
theorem inv_asgT {tg : T} {e : E} {st : Stmt} (h : mS nm N sc (.asgT tg e) st = true) : ∃ t x pos, st = .Assign [t] x pos ∧ isTup tg = true ∧ mT N sc (fun _ => true) tg t = true ∧ mE nm N sc e x = true ∧ swS sc t x = some none := by
  cases st with
  | Assign ts x pos =>
    cases ts with
    | nil => exact ff h
    | cons t r =>
      cases r with
      | cons _ _ => cases t <;> exact ff h
      | nil =>
        have h' : (isTup tg && mT N sc (fun _ => true) tg t && mE nm N sc e x && decide (swS sc t x = some none)) = true := by cases t <;> exact h
        obtain ⟨h1, h4⟩ := and2 h'
        obtain ⟨h1, h3⟩ := and2 h1
        obtain ⟨h1, h2⟩ := and2 h1
        exact ⟨t, x, pos, rfl, h1, h2, h3, of_decide_eq_true h4⟩
  | _ => exact ff h
theorem cm_asgT (hc : CtxS X N sc k G nm xa) {tg : T} {e : E} : CmS nm xa X N sc k G (.asgT tg e) := .of (fun h => nomatch h) (fun _ _ h => nomatch h) fun st h => by
  obtain ⟨t, x, pos, rfl, h1, h2, h3, h4⟩ := inv_asgT h
  obtain ⟨es, kk, tp, rfl⟩ := isTup_of h2 h1
  have hk : X.env.scope.kind = .function := by rw [hc.hsc]; exact hc.hk
  refine ⟨fun pins s sg H D I ⟨Bk, tk, zz, B0, H0, th0, rho, mu, B, th, De, ss, dn, x1, m1, e1, rho1, e2, w⟩ => ?_⟩
  refine (ps_asg ((sound nm xa e).v hc.toCtx h3 e1) (pg_of hc.hN hc.nd hc.hsc hc.calm (fun x _ => .inl (hc.fn x)) h2) (sw_sole (fun _ _ z => Expr.noConfusion z) (mE_nosw h3)) (swS_eq hk (by rw [hc.hsc]; exact h4)) (by rw [mT_each h2]; rfl)).run pins s sg H D I ⟨B, th, ss.toSR, fun v B' H' th' sc f r => ?_⟩
  obtain ⟨sg', s', g⟩ := (ss.step sc f).bind r e2
  exact g _ (dn.nx _ _ _ _ _ _ s' w)
theorem inv_setIx {i : Nat} {kx e : E} {st : Stmt} (h : mS nm N sc (.setIx i kx e) st = true) : ∃ y yp z zp x pos, st = .Assign [.Subscript (.Name y yp) z zp] x pos ∧ N[i]? = some y ∧ visB sc y = true ∧ plainName y = true ∧ mE nm N sc kx z = true ∧ mE nm N sc e x = true := by
  cases st with
  | Assign ts x pos =>
    cases ts with
    | nil => exact ff h
    | cons t r =>
      cases r with
      | cons _ _ =>
        cases t with
        | Subscript o z zp => cases o <;> exact ff h
        | _ => exact ff h
      | nil =>
        cases t with
        | Subscript o z zp =>
          cases o with
          | Name y yp =>
            obtain ⟨h1, h5⟩ := and2 (show (decide (N[i]? = some y) && visB sc y && plainName y && mE nm N sc kx z && mE nm N sc e x) = true from h)
            obtain ⟨h1, h4⟩ := and2 h1
            obtain ⟨h1, h3⟩ := and2 h1
            obtain ⟨h1, h2⟩ := and2 h1
            exact ⟨y, yp, z, zp, x, pos, rfl, of_decide_eq_true h1, h2, h3, h4, h5⟩
          | _ => exact ff h
        | _ => exact ff h
  | _ => exact ff h
theorem cm_setIx (hc : CtxS X N sc k G nm xa) {i : Nat} {kx e : E} : CmS nm xa X N sc k G (.setIx i kx e) := .of (fun h => nomatch h) (fun _ _ h => nomatch h) fun st h => by
  obtain ⟨y, yp, z, zp, x, pos, rfl, h1, h2, h3, h4, h5⟩ := inv_setIx h
  have hk : X.env.scope.kind = .function := by rw [hc.hsc]; exact hc.hk
  refine ⟨fun pins s sg H D I ⟨Bk, tk, zz, B0, H0, th0, rho, mu, B, th, De, ss, dn, d, m1, e1, kd, m2, e2, c, c', e3, e4, w⟩ => ?_⟩
  have hu : X.A.units + 1 < cLine := by have := hc.room.units; omega
  refine (ps_asg ((sound nm xa e).v hc.toCtx h5 e1) (pg_sub (pv_at hc h1 h2 h3) ((sound nm xa kx).v hc.toCtx h4 e2) (set_x hu) (mE_assign h4 _ _ _)) (sw_sole (fun _ _ z => Expr.noConfusion z) (mE_nosw h5)) (swS_eq hk rfl) rfl).run pins s sg H D I ⟨B, th, ss.toSR, fun v B1 H1 th1 s1 f1 r1 => ?_⟩
  have ss1 := ss.step s1 f1
  -- the object, by its slot
  have hi : ∃ u, sg[i]? = some (some u) := by
    unfold cellAt at e3
    split at e3
    · rename_i c0 hr
      obtain ⟨a, o, g1, _⟩ := ss1.own i _ hr
      exact ⟨_, g1⟩
    · rename_i n hr
      obtain ⟨u, g1, _⟩ := ss1.dat i _ hr
      exact ⟨u, g1⟩
    · cases e3
  obtain ⟨u, hu1⟩ := hi
  refine ⟨u, hu1, B1, th1, ss1.toSR, fun kv B2 H2 th2 s2 f2 r2 => ?_⟩
  have ss2 := ss1.step s2 f2
  obtain ⟨a, o, g1, g2, g3, g4, g5⟩ := ss2.mutate e3
  rw [hu1] at g1
  cases g1
  obtain ⟨o', co', q⟩ := put_sound g4 g2 ss2.ex r2 (Rep.mono f2.ex f2.pre r1) e4
  exact q _ (dn.nx _ _ _ _ _ _ (g5 c' o' co') w)
theorem inv_app {i : Nat} {e : E} {st : Stmt} (h : mS nm N sc (.app i e) st = true) : ∃ y yp pa x pc pos, st = .Expr (.Call (.Attribute (.Name y yp) "append" pa) [x] [] pc) pos ∧ N[i]? = some y ∧ visB sc y = true ∧ plainName y = true ∧ (pa.endLine == pc.line) = true ∧ mE nm N sc e x = true := by
  cases st with
  | Expr x pos =>
    cases x with
    | Call fn xs ks pc =>
      cases fn with
      | Attribute o n pa =>
        cases o with
        | Name y yp =>
          match xs, ks, h with
          | [x], [], h =>
            obtain ⟨a1, h6⟩ := and2 (show (decide (N[i]? = some y) && visB sc y && plainName y && decide (n = ("append" : Str)) && (pa.endLine == pc.line) && mE nm N sc e x) = true from h)
            obtain ⟨a2, h5⟩ := and2 a1
            obtain ⟨a3, h4⟩ := and2 a2
            obtain ⟨a4, h3⟩ := and2 a3
            obtain ⟨h1, h2⟩ := and2 a4
            clear a1 a2 a3 a4 h
            have e := of_decide_eq_true h4
            subst e
            exact ⟨y, yp, pa, x, pc, pos, rfl, of_decide_eq_true h1, h2, h3, h5, h6⟩
          | [], _, h => exact ff h
          | [_], _ :: _, h => exact ff h
          | _ :: _ :: _, _, h => exact ff h
        | _ => exact ff h
      | _ => exact ff h
    | _ => exact ff h
  | _ => exact ff h
theorem cm_app (hc : CtxS X N sc k G nm xa) {i : Nat} {e : E} : CmS nm xa X N sc k G (.app i e) := .of (fun h => nomatch h) (fun _ _ h => nomatch h) fun st h => by
  obtain ⟨y, yp, pa, x, pc, pos, rfl, h1, h2, h3, h4, h5⟩ := inv_app h
  refine ⟨fun pins s sg H D I ⟨Bk, tk, zz, B0, H0, th0, rho, mu, B, th, De, ss, dn, ⟨ds0, e0⟩, d, m1, e1, ds, e2, e3, w⟩ => ?_⟩
  refine (ps_expr (pe_bm PySem.F.plainAttrs_list PySem.F.slot_list_append PySem.F.type_list_append mt_append (pv_at hc h1 h2 h3) (pa_cons ((sound nm xa e).v hc.toCtx h5 e1) pa_nil ((mE_form h5).1 _ _)) rfl (by rw [(mE_form h5).1]; rfl) h4 ((mE_form h5).1 _ _) rfl)).run pins s sg H D I ?_
  obtain ⟨a, o, g1, g2, g3, g4, g5⟩ := ss.mutate e0
  refine ⟨.ref a, g1, ?_, B, th, ss.toSR, fun v B' H' th' sc f r => ?_⟩
  · cases g4 with
    | lst rs => exact .inl ⟨rfl, _, .inl (.inl g2)⟩
  · have ss1 := ss.step sc f
    obtain ⟨a', o', y1, y2, y3, y4, y5⟩ := ss1.mutate e2
    rw [g1] at y1
    cases y1
    cases y4 with
    | lst rs =>
      rename_i vs
      have hcp : (cap : Nat) ≤ sizeLine := cap_le
      refine ⟨a, vs, v, rfl, rfl, y2, by rw [rs.length]; omega, dn.nx _ _ _ _ _ _ (y5 (.lst (ds ++ [d])) _ (.lst (rs.append (.cons r .nil)))) w⟩
theorem inv_setF {i : Nat} {e : E} {st : Stmt} (h : mS nm N sc (.setF i e) st = true) : ∃ y yp ap xs lp pos, st = .Assign [.Attribute (.Name y yp) "states" ap] (.List xs lp) pos ∧ N[i]? = some y ∧ visB sc y = true ∧ plainName y = true ∧ isFr e = true ∧ mE nm N sc e (.List xs lp) = true := by
  cases st with
  | Assign ts v pos =>
    replace h : (match asF ts v with
      | some (y, _, _, xs, lp) => decide (N[i]? = some y) && visB sc y && plainName y && isFr e && mE nm N sc e (.List xs lp)
      | none => false) = true := h
    split at h
    · rename_i y yp ap xs lp q
      obtain ⟨rfl, rfl⟩ := asF_inv q
      obtain ⟨h1, h5⟩ := and2 h
      obtain ⟨h1, h4⟩ := and2 h1
      obtain ⟨h1, h3⟩ := and2 h1
      obtain ⟨h1, h2⟩ := and2 h1
      exact ⟨y, yp, ap, xs, lp, pos, rfl, of_decide_eq_true h1, h2, h3, h4, h5⟩
    · cases h
  | _ => exact ff h
theorem putF_states {v l : V} : putF "states" v [] = [((("states" : Str)), v)] ∧ putF "states" v [((("states" : Str)), l)] = [((("states" : Str)), v)] := by
  constructor
  · rfl
  · show (if ("states" : Str) = "states" then [((("states" : Str)), v)] else _) = _
    rw [if_pos rfl]
theorem cm_setF (hc : CtxS X N sc k G nm xa) {i : Nat} {e : E} : CmS nm xa X N sc k G (.setF i e) := .of (fun h => nomatch h) (fun _ _ h => nomatch h) fun st h => by
  obtain ⟨y, yp, ap, xs, lp, pos, rfl, h1, h2, h3, h4, h5⟩ := inv_setF h
  refine ⟨fun pins s sg H D I ⟨Bk, tk, zz, B0, H0, th0, rho, mu, B, th, De, ss, dn, d, m1, e1, ds, n, f, e2, e3, e4, e5, w⟩ => ?_⟩
  subst e2
  refine (ps_fld (pv_at hc h1 h2 h3) ((sound nm xa e).f hc.toCtx h4 h5 e1) rfl).run pins s sg H D I ⟨B, th, ss.toSR, fun p vs B' H' th' sc f1 hn hb hp hl hr => ?_⟩
  have ss1 := ss.step (SRc.cellNewM sc hb hp hl (.lst hr)) (Fut.cellNewM f1 hn)
  obtain ⟨v, g1, g2⟩ := ss1.dat i _ e3
  have hnl : n < m1.length := (List.getElem?_eq_some_iff.mp e4).1
  have e4' : (m1 ++ [Cell.lst ds])[n]? = some (.ins f) := by rw [List.getElem?_append_left hnl]; exact e4
  obtain ⟨a, C, dx, fs, rfl, y1, y2, y3, y4⟩ := ins_at ss1.toSRc e4' g2
  obtain ⟨c1, c2, _⟩ := hc.g.ed e5 C y2
  obtain ⟨a', o, z1, z2, z3, z4, z5⟩ := ss1.mutN e4'
  rw [y1] at z1
  cases z1
  have hnew : (th' ++ [p])[m1.length]? = some p := by rw [← sc.len, List.getElem?_append_right (Nat.le_refl _), Nat.sub_self]; rfl
  refine ⟨.ref a, g1, a, C, dx, fs, rfl, y3, c1, c2, ?_, dn.nx _ _ _ _ _ _ (z5 (.ins (some m1.length)) _ ?_) w⟩
  · rcases y4 with ⟨_, rfl⟩ | ⟨_, _, _, _, rfl⟩
    · exact (by decide : 0 < 1000)
    · exact (by decide : 1 < 1000)
  · have : putF "states" (.ref p) fs = [((("states" : Str)), V.ref p)] := by
      rcases y4 with ⟨_, rfl⟩ | ⟨_, _, _, _, rfl⟩
      · exact (putF_states (l := .non)).1
      · exact putF_states.2
    rw [this]
    exact .ins1 y2 hnew
theorem inv_appF {i : Nat} {e : E} {st : Stmt} (h : mS nm N sc (.appF i e) st = true) : ∃ y yp fp pa x pc pos, st = .Expr (.Call (.Attribute (.Attribute (.Name y yp) "states" fp) "append" pa) [x] [] pc) pos ∧ N[i]? = some y ∧ visB sc y = true ∧ plainName y = true ∧ (pa.endLine == pc.line) = true ∧ mE nm N sc e x = true := by
  cases st with
  | Expr x pos =>
    cases x with
    | Call fn xs ks pc =>
      cases fn with
      | Attribute o n pa =>
        cases o with
        | Attribute u f fp =>
          cases u with
          | Name y yp =>
            match xs, ks, h with
            | [x], [], h =>
              obtain ⟨a1, h7⟩ := and2 (show (decide (N[i]? = some y) && visB sc y && plainName y && decide (f = ("states" : Str)) && decide (n = ("append" : Str)) && (pa.endLine == pc.line) && mE nm N sc e x) = true from h)
              obtain ⟨a2, h6⟩ := and2 a1
              obtain ⟨a3, h5⟩ := and2 a2
              obtain ⟨a4, h4⟩ := and2 a3
              obtain ⟨a5, h3⟩ := and2 a4
              obtain ⟨h1, h2⟩ := and2 a5
              clear a1 a2 a3 a4 a5 h
              have e := of_decide_eq_true h5
              have e' := of_decide_eq_true h4
              subst e e'
              exact ⟨y, yp, fp, pa, x, pc, pos, rfl, of_decide_eq_true h1, h2, h3, h6, h7⟩
            | [], _, h => exact ff h
            | [_], _ :: _, h => exact ff h
            | _ :: _ :: _, _, h => exact ff h
          | _ => exact ff h
        | _ => exact ff h
      | _ => exact ff h
    | _ => exact ff h
  | _ => exact ff h
theorem cm_appF (hc : CtxS X N sc k G nm xa) {i : Nat} {e : E} : CmS nm xa X N sc k G (.appF i e) := .of (fun h => nomatch h) (fun _ _ h => nomatch h) fun st h => by
  obtain ⟨y, yp, fp, pa, x, pc, pos, rfl, h1, h2, h3, h4, h5⟩ := inv_appF h
  refine ⟨fun pins s sg H D I ⟨Bk, tk, zz, B0, H0, th0, rho, mu, B, th, De, ss, dn, n, m, e3, e4, e5, ⟨ds0, e0⟩, d, m1, e1, ds, e6, e7, w⟩ => ?_⟩
  refine (ps_expr (pe_bm PySem.F.plainAttrs_list PySem.F.slot_list_append PySem.F.type_list_append mt_append (pe_fld (pv_at hc h1 h2 h3) rfl) (pa_cons ((sound nm xa e).v hc.toCtx h5 e1) pa_nil ((mE_form h5).1 _ _)) rfl (by rw [(mE_form h5).1]; rfl) h4 ((mE_form h5).1 _ _) rfl)).run pins s sg H D I ?_
  obtain ⟨v, g1, g2⟩ := ss.dat i _ e3
  obtain ⟨a, C, dx, fs, rfl, y1, y2, y3, ⟨z, _⟩ | ⟨m', l, z, y4, rfl⟩⟩ := ins_at ss.toSRc e4 g2
  · cases z
  · cases z
    obtain ⟨c1, c2, _⟩ := hc.g.ed e5 C y2
    obtain ⟨l', o, q1, q2, q3, q4, q5⟩ := ss.mutN e0
    rw [y4] at q1
    cases q1
    refine ⟨.ref a, g1, a, C, dx, _, .ref l, rfl, y3, c1, c2, rfl, ?_, B, th, ss.toSR, fun v B' H' th' sc f r => ?_⟩
    · cases q4 with
      | lst rs => exact .inl ⟨rfl, _, .inl (.inl q2)⟩
    · have ss1 := ss.step sc f
      obtain ⟨l'', o', z1, z2, z3, z4, z5⟩ := ss1.mutN e6
      have y5 : th'[m]? = some l := pre_get f.pre y4
      rw [y5] at z1
      cases z1
      cases z4 with
      | lst rs =>
        rename_i vs
        have hcp : (cap : Nat) ≤ sizeLine := cap_le
        refine ⟨l, vs, v, rfl, rfl, z2, by rw [rs.length]; omega, dn.nx _ _ _ _ _ _ (z5 (.lst (ds ++ [d])) _ (.lst (rs.append (.cons r .nil)))) w⟩
theorem inv_par2 {i j : Nat} {p q : P} {st : Stmt} (h : mS nm N sc (.par2 i j p q) st = true) : ∃ x px y py kt pt a b k2 pt2 pos, st = .Assign [.Tuple [.Name x px, .Name y py] kt pt] (.Tuple [a, b] k2 pt2) pos ∧ N[i]? = some x ∧ N[j]? = some y ∧ i ≠ j ∧
    lclB sc x = true ∧ lclB sc y = true ∧ mP nm N sc p a = true ∧ mP nm N sc q b = true ∧ swS sc (.Tuple [.Name x px, .Name y py] kt pt) (.Tuple [a, b] k2 pt2) = some (some [x, y]) := by
  cases st with
  | Assign ts v pos =>
    cases ts with
    | nil => exact ff h
    | cons t r =>
    cases t with
    | Tuple es kt pt =>
      cases es with
      | nil => cases r <;> exact ff h
      | cons e1 es =>
      cases e1 with
      | Name x px =>
        cases es with
        | nil => cases r <;> exact ff h
        | cons e2 es =>
        cases e2 with
        | Name y py =>
          cases es with
          | cons _ _ => cases r <;> exact ff h
          | nil =>
          cases r with
          | cons _ _ => exact ff h
          | nil =>
          cases v with
          | Tuple vs k2 pt2 =>
            cases vs with
            | nil => exact ff h
            | cons a vs =>
            cases vs with
            | nil => exact ff h
            | cons b vs =>
            cases vs with
            | cons _ _ => exact ff h
            | nil =>
              obtain ⟨h1, h8⟩ := and2 (show (decide (N[i]? = some x) && decide (N[j]? = some y) && decide (i ≠ j) && lclB sc x && lclB sc y && mP nm N sc p a && mP nm N sc q b && decide (swS sc (.Tuple [.Name x px, .Name y py] kt pt) (.Tuple [a, b] k2 pt2) = some (some [x, y]))) = true from h)
              obtain ⟨h1, h7⟩ := and2 h1
              obtain ⟨h1, h6⟩ := and2 h1
              obtain ⟨h1, h5⟩ := and2 h1
              obtain ⟨h1, h4⟩ := and2 h1
              obtain ⟨h1, h3⟩ := and2 h1
              obtain ⟨h1, h2⟩ := and2 h1
              exact ⟨x, px, y, py, kt, pt, a, b, k2, pt2, pos, rfl, of_decide_eq_true h1, of_decide_eq_true h2, of_decide_eq_true h3, h4, h5, h6, h7, of_decide_eq_true h8⟩
          | _ => exact ff h
        | _ => cases es <;> cases r <;> exact ff h
      | _ => cases r <;> exact ff h
    | _ => cases r <;> exact ff h
  | _ => exact ff h
theorem cm_par2 (hc : CtxS X N sc k G nm xa) {i j : Nat} {p q : P} : CmS nm xa X N sc k G (.par2 i j p q) := .of (fun h => nomatch h) (fun _ _ h => nomatch h) fun st h => by
  obtain ⟨x, px, y, py, kt, pt, a, b, k2, pt2, pos, rfl, h1, h2, h3, h4, h5, h6, h7, h8⟩ := inv_par2 h
  have hk : X.env.scope.kind = .function := by rw [hc.hsc]; exact hc.hk
  refine ⟨fun pins s sg H D I ⟨Bk, tk, zz, B0, H0, th0, rho, mu, B, th, De, ss, dn, x1, m1, e1, x2, m2, e2, w⟩ => ?_⟩
  refine (ps_par hc.calm (by rw [hc.hN]; exact hc.nd) (by rw [hc.hN]; exact h1) (by rw [hc.hN]; exact h2) h3 (by rw [hc.hsc]; exact lclB_of h4) (by rw [hc.hsc]; exact lclB_of h5) (pa_cons (pv_sound hc.toCtx h6 e1) (pa_cons (pv_sound hc.toCtx h7 e2) pa_nil (mP_star h7 _ _)) (mP_star h6 _ _)) (swS_eq hk (by rw [hc.hsc]; exact h8))).run pins s sg H D I ⟨B, th, ss.toSR, fun v B1 H1 th1 s1 f1 r1 => ?_⟩
  have ss1 := ss.step s1 f1
  refine ⟨B1, th1, ss1.toSR, fun v2 B2 H2 th2 s2 f2 r2 => ?_⟩
  have ss2 := ss1.step s2 f2
  have t1 := ss2.setS (i := i) (r1.fut f2) (ss.toSR.noOwn r1) ss.fut.dom
  have t2 := t1.setS (i := j) r2 ((ss1.toSR.noOwn r2).set ss.sl (mP_two r1 r2)) ss1.fut.dom
  exact ⟨v, v2, rfl, dn.nx _ _ _ _ _ _ t2 w⟩
theorem inv_par3 {i j l : Nat} {p q o : P} {st : Stmt} (h : mS nm N sc (.par3 i j l p q o) st = true) : ∃ x px y py z pz kt pt a b c k2 pt2 pos, st = .Assign [.Tuple [.Name x px, .Name y py, .Name z pz] kt pt] (.Tuple [a, b, c] k2 pt2) pos ∧ N[i]? = some x ∧ N[j]? = some y ∧ N[l]? = some z ∧ i ≠ j ∧ i ≠ l ∧ j ≠ l ∧
    lclB sc x = true ∧ lclB sc y = true ∧ lclB sc z = true ∧ mP nm N sc p a = true ∧ mP nm N sc q b = true ∧ mP nm N sc o c = true ∧ swS sc (.Tuple [.Name x px, .Name y py, .Name z pz] kt pt) (.Tuple [a, b, c] k2 pt2) = some (some [x, y, z]) := by
  cases st with
  | Assign ts v pos =>
    cases ts with
    | nil => exact ff h
    | cons t r =>
    cases t with
    | Tuple es kt pt =>
      cases es with
      | nil => cases r <;> exact ff h
      | cons e1 es =>
      cases e1 with
      | Name x px =>
        cases es with
        | nil => cases r <;> exact ff h
        | cons e2 es =>
        cases e2 with
        | Name y py =>
          cases es with
          | nil => cases r <;> exact ff h
          | cons e3 es =>
          cases e3 with
          | Name z pz =>
            cases es with
            | cons _ _ => cases r <;> exact ff h
            | nil =>
            cases r with
            | cons _ _ => exact ff h
            | nil =>
            cases v with
            | Tuple vs k2 pt2 =>
              cases vs with
              | nil => exact ff h
              | cons a vs =>
              cases vs with
              | nil => exact ff h
              | cons b vs =>
              cases vs with
              | nil => exact ff h
              | cons c vs =>
              cases vs with
              | cons _ _ => exact ff h
              | nil =>
                obtain ⟨h1, h14⟩ := and2 (show (decide (N[i]? = some x) && decide (N[j]? = some y) && decide (N[l]? = some z) && decide (i ≠ j) && decide (i ≠ l) && decide (j ≠ l) && lclB sc x && lclB sc y && lclB sc z && mP nm N sc p a && mP nm N sc q b && mP nm N sc o c && decide (swS sc (.Tuple [.Name x px, .Name y py, .Name z pz] kt pt) (.Tuple [a, b, c] k2 pt2) = some (some [x, y, z]))) = true from h)
                obtain ⟨h1, h13⟩ := and2 h1
                obtain ⟨h1, h12⟩ := and2 h1
                obtain ⟨h1, h11⟩ := and2 h1
                obtain ⟨h1, h10⟩ := and2 h1
                obtain ⟨h1, h9⟩ := and2 h1
                obtain ⟨h1, h8⟩ := and2 h1
                obtain ⟨h1, h7⟩ := and2 h1
                obtain ⟨h1, h6⟩ := and2 h1
                obtain ⟨h1, h5⟩ := and2 h1
                obtain ⟨h1, h3⟩ := and2 h1
                obtain ⟨h1, h2⟩ := and2 h1
                exact ⟨x, px, y, py, z, pz, kt, pt, a, b, c, k2, pt2, pos, rfl, of_decide_eq_true h1, of_decide_eq_true h2, of_decide_eq_true h3, of_decide_eq_true h5, of_decide_eq_true h6, of_decide_eq_true h7, h8, h9, h10, h11, h12, h13, of_decide_eq_true h14⟩
            | _ => exact ff h
          | _ => cases es <;> cases r <;> exact ff h
        | _ => cases es <;> cases r <;> exact ff h
      | _ => cases r <;> exact ff h
    | _ => cases r <;> exact ff h
  | _ => exact ff h
theorem cm_par3 (hc : CtxS X N sc k G nm xa) {i j l : Nat} {p q o : P} : CmS nm xa X N sc k G (.par3 i j l p q o) := .of (fun h => nomatch h) (fun _ _ h => nomatch h) fun st h => by
  obtain ⟨x, px, y, py, z, pz, kt, pt, a, b, c, k2, pt2, pos, rfl, h1, h2, h3, d1, d2, d3, h4, h5, h6, g1, g2, g3, h8⟩ := inv_par3 h
  have hk : X.env.scope.kind = .function := by rw [hc.hsc]; exact hc.hk
  refine ⟨fun pins s sg H D I ⟨Bk, tk, zz, B0, H0, th0, rho, mu, B, th, De, ss, dn, x1, m1, e1, x2, m2, e2, x3, m3, e3, w⟩ => ?_⟩
  refine (ps_par3 hc.calm (by rw [hc.hN]; exact hc.nd) (by rw [hc.hN]; exact h1) (by rw [hc.hN]; exact h2) (by rw [hc.hN]; exact h3) d1 d2 d3 (by rw [hc.hsc]; exact lclB_of h4) (by rw [hc.hsc]; exact lclB_of h5) (by rw [hc.hsc]; exact lclB_of h6)
    (pa_cons (pv_sound hc.toCtx g1 e1) (pa_cons (pv_sound hc.toCtx g2 e2) (pa_cons (pv_sound hc.toCtx g3 e3) pa_nil (mP_star g3 _ _)) (mP_star g2 _ _)) (mP_star g1 _ _)) (swS_eq hk (by rw [hc.hsc]; exact h8))).run pins s sg H D I ⟨B, th, ss.toSR, fun v B1 H1 th1 s1 f1 r1 => ?_⟩
  have ss1 := ss.step s1 f1
  refine ⟨B1, th1, ss1.toSR, fun v2 B2 H2 th2 s2 f2 r2 => ?_⟩
  have ss2 := ss1.step s2 f2
  refine ⟨B2, th2, ss2.toSR, fun v3 B3 H3 th3 s3 f3 r3 => ?_⟩
  have ss3 := ss2.step s3 f3
  have t1 := ss3.setS (i := i) ((r1.fut f2).fut f3) (ss.toSR.noOwn r1) ss.fut.dom
  have t2 := t1.setS (i := j) (r2.fut f3) ((ss1.toSR.noOwn r2).set ss.sl (mP_two r1 r2)) ss1.fut.dom
  have sl1 : (rho.set i (some x1)).length = (sg.set i (some v)).length := by rw [List.length_set, List.length_set]; exact ss.sl
  have t3 := t2.setS (i := l) r3 (((ss2.toSR.noOwn r3).set ss.sl (mP_two (r1.fut f2) r3)).set sl1 (mP_two r2 r3)) ss2.fut.dom
  exact ⟨v, v2, v3, rfl, dn.nx _ _ _ _ _ _ t3 w⟩
/-- every command -/
theorem cmd (hc : CtxS X N sc k G nm xa) : ∀ c : Cm, CmS nm xa X N sc k G c
  | .nil => cm_nil
  | .seq a b => cm_seq (cmd hc a) (cmd hc b)
  | .frz i => cm_frz
  | .asg i p => cm_asg hc
  | .par2 i j p q => cm_par2 hc
  | .par3 i j l p q o => cm_par3 hc
  | .asgT tg e => cm_asgT hc
  | .setIx i kx e => cm_setIx hc
  | .app i e => cm_app hc
  | .ex e => cm_ex hc
  | .setF i e => cm_setF hc
  | .appF i e => cm_appF hc
  | .ite t a b => cm_ite hc (cmd hc a) (cmd hc b)
  | .whl t b => cm_whl hc (cmd hc b)
  | .loop tg it b => cm_loop hc (cmd hc b)
  | .asgC i e => cm_asgC hc
  | .iteL i t a b => cm_iteL hc (cmd hc a) (cmd hc b)
  | .iteH i e a => cm_iteH hc (cmd hc a)
  | .retL g as js lam ix => cm_retL hc
  | .ret e => cm_ret hc
  | .retC e => cm_retC hc
  | .retO i => cm_retO hc
  | .retN => cm_retN
  | .brk => cm_brk
  | .cont => cm_cont
  | .pass => cm_pass
  | .never => cm_never
end
end Lin

set_option maxHeartbeats 1000000
/-! Lin, part T: defs. -/
namespace Lin
open PySem PySem.Spec PyProof.Rows L2

def startE (n : Nat) (ds : List Dat) : Env := ds.map (fun d => some (.dat d)) ++ List.replicate (n - ds.length) none
/-- the body does what F says -/
def Good (G : Gam) (c : Cm) (n ar : Nat) (F : Fn) : Prop := ∀ ds mu r, ds.length = ar → F ds mu = some r →
  ∃ d mu', r = .ok d mu' ∧ wpS G c { nx := fun _ u => d = .non ∧ u = mu', rt := fun d' u => d' = d ∧ u = mu' } (startE n ds) mu
theorem start_SR {K : PySem.W.Frag} {B H : Hp} {th : List Addr} {mu : Store} {N : List Str} {ds : List Dat} {vs : List V} (s : SRc K B H th mu) (r : Reps K B th ds vs) : SR K B H th mu (startE N.length ds) (L2.start N vs) where
  toSRc := s
  sl := by
    unfold startE L2.start
    rw [List.length_append, List.length_append, List.length_map, List.length_map, List.length_replicate, List.length_replicate, r.length]
  dat := fun i d h => by
    unfold startE at h
    unfold L2.start
    by_cases z : i < ds.length
    · rw [List.getElem?_append_left (by rw [List.length_map]; exact z), List.getElem?_map] at h
      cases q : ds[i]? with
      | none => rw [q] at h; cases h
      | some d' =>
        rw [q] at h
        cases h
        obtain ⟨v, h1, h2⟩ := r.get q
        refine ⟨v, ?_, h2⟩
        rw [List.getElem?_append_left (by rw [List.length_map, r.length]; exact z), List.getElem?_map, h1]
        rfl
    · rw [List.getElem?_append_right (by rw [List.length_map]; omega)] at h
      rw [List.getElem?_replicate] at h
      split at h <;> cases h
  own := fun i c h => by
    unfold startE at h
    by_cases z : i < ds.length
    · rw [List.getElem?_append_left (by rw [List.length_map]; exact z), List.getElem?_map] at h
      cases q : ds[i]? with
      | none => rw [q] at h; cases h
      | some d' => rw [q] at h; cases h
    · rw [List.getElem?_append_right (by rw [List.length_map]; omega), List.getElem?_replicate] at h
      split at h <;> cases h
  apart := fun i j c c' a h _ _ _ => by
    exfalso
    unfold startE at h
    by_cases z : i < ds.length
    · rw [List.getElem?_append_left (by rw [List.length_map]; exact z), List.getElem?_map] at h
      cases q : ds[i]? with
      | none => rw [q] at h; cases h
      | some d' => rw [q] at h; cases h
    · rw [List.getElem?_append_right (by rw [List.length_map]; omega), List.getElem?_replicate] at h
      split at h <;> cases h
theorem start_own {n : Nat} {ds : List Dat} {i : Nat} {c : Cell} (h : (startE n ds)[i]? = some (some (.own c))) : False := by
  unfold startE at h
  by_cases z : i < ds.length
  · rw [List.getElem?_append_left (by rw [List.length_map]; exact z), List.getElem?_map] at h
    cases q : ds[i]? with
    | none => rw [q] at h; cases h
    | some d' => rw [q] at h; cases h
  · rw [List.getElem?_append_right (by rw [List.length_map]; omega), List.getElem?_replicate] at h
    split at h <;> cases h
section
variable {P : Program} {w : World} {K : PySem.W.Frag} {mg : Str → Option Value} {base : Heap} {k : Nat} {G : Gam} {nm : Nms} {xa : Nat → Addr}
/-- what is known of a def's own table -/
def TbOk (base : Heap) (mg : Str → Option Value) (G : Gam) (qual : Str) (fd : FuncData) : Prop := ∀ n P q, G.tb = some (n, P, q) → (qual ++ ".<locals>.") ++ "<lambda>" = q ∧ ∃ c, LamX.TabB base mg c P ∧ fd.code = .ref c
/-- THE RULE for a def -/
theorem def_okT (g : GOk P w K mg base k G nm xa) {x qual : Str} {st : Stmt} {f : Addr} {fd : FuncData} {N ps : List Str} (F : L2.Fun K x qual st f fd) (S : FnScope N ps (defScope st)) {c : Cm} (hm : mB nm N (defScope st) c (defBody st) = true) {Fx : Fn} (good : Good G c N.length ps.length Fx)
    (hhb : G.hb = none) (htb : TbOk base mg G qual fd) : FnOk P w K mg base (L2.CX P w) (k + 1) f fd ps (spOf K xa ps.length Fx) := by
  obtain ⟨oc, od, kV, doc, pm, an, cdv, ct, osl, rfl, lk, hcd⟩ := F.ex
  refine fn_of lk hcd S (fun vs H Q E h => h.1) (fun A outer s H vs Q E hr h => ?_)
  obtain ⟨hl, B, th, mu, ds, r, sc, rs, he, hq⟩ := h
  have hdl : ds.length = ps.length := by rw [← rs.length]; exact hl
  obtain ⟨d, mu', rfl, w0⟩ := good ds mu r hdl he
  have hc : CtxS (cxOf (L2.CX P w) P w K mg base N qual (defScope st) f cdv A outer s H E) N (defScope st) k G nm xa :=
    { hN := rfl, nd := S.nd, hsc := rfl, calm := rfl, room := hr, g := g, hk := S.kind, fn := fun _ => rfl, pas := passes_of rfl, ex := rfl, tbk := htb }
  refine ⟨_, (cmd hc c).2 _ hm, B, th, (fun f clo z => by rw [hhb] at z; cases z), B, H, th, _, mu, B, th, { nx := fun _ u => d = .non ∧ u = mu', rt := fun d' u => d' = d ∧ u = mu' }, ⟨start_SR sc rs, .refl _ _ _, fun j c a h _ => (start_own h).elim, .refl _, List.prefix_refl _⟩, ⟨fun B1 H1 th1 m1 r1 g1 s1 w1 => ?_, fun v d1 B1 H1 th1 m1 s1 f1 r1 w1 => ?_, fun _ _ _ _ _ _ _ z => z.elim, fun _ _ _ _ _ _ _ z => z.elim⟩, w0⟩
  · obtain ⟨e1, e2⟩ := w1
    subst e1 e2
    exact hq .non B1 H1 th1 s1.toSRc s1.fut .non
  · obtain ⟨e1, e2⟩ := w1
    subst e1 e2
    exact hq v B1 H1 th1 s1 f1 r1
theorem def_ok (g : GOk P w K mg base k G nm xa) {x qual : Str} {st : Stmt} {f : Addr} {fd : FuncData} {N ps : List Str} (F : L2.Fun K x qual st f fd) (S : FnScope N ps (defScope st)) {c : Cm} (hm : mB nm N (defScope st) c (defBody st) = true) {Fx : Fn} (good : Good G c N.length ps.length Fx)
    (hhb : G.hb = none := by rfl) (htb : G.tb = none := by rfl) : FnOk P w K mg base (L2.CX P w) (k + 1) f fd ps (spOf K xa ps.length Fx) :=
  def_okT g F S hm good hhb fun n Q q z => by rw [htb] at z; cases z
/-- a def that takes a function, last -/
theorem hf_ok (g : GOk P w K mg base k G nm xa) (hk : 1 ≤ k) {x qual : Str} {st : Stmt} {f : Addr} {fd : FuncData} {N ps : List Str} (F : L2.Fun K x qual st f fd) (S : FnScope N ps (defScope st)) {c : Cm} (hm : mB nm N (defScope st) c (defBody st) = true) (b : Binds K fd ps []) {HF : Addr → Fn → Fn}
    (good : ∀ f clo ds mu r, ds.length + 1 = ps.length → HF f clo ds mu = some r → ∃ d mu', r = .ok d mu' ∧ wpS { G with hb := some (f, clo) } c { nx := fun _ u => d = .non ∧ u = mu', rt := fun d' u => d' = d ∧ u = mu' } (startE N.length (ds ++ [.fn f])) mu)
    (htb : G.tb = none := by rfl) : HfOk P w K mg base (k + 1) f xa ps.length HF := by
  refine ⟨fun A outer s H f0 F0 body clo ds us vs B th mu r Q E hr e0 rv sc rs hl hB hof hF hend => ?_⟩
  obtain ⟨d, mu', rfl, w0⟩ := good f0 clo ds mu r hl hF
  obtain ⟨oc, od, kV, doc, pm, an, cdv, ct, osl, rfl, lk, hcd⟩ := F.ex
  have KX : K.In s.heap := e0.mod.kin.keeps fun b o e => (e0.bs b o e).1
  have hlu : (us ++ [Value.ref f0]).length = ps.length := by rw [List.length_append, ← rv.length, rs.length]; exact hl
  have hlv : (vs ++ [V.ref f0]).length = ps.length := by rw [List.length_append, rs.length]; exact hl
  have hb := b s (us ++ [.ref f0]) KX (by rw [List.append_nil]; exact hlu)
  rw [List.append_nil] at hb
  refine LamX.run_ofS (k := k) (N := N) (ps := ps) (us := us ++ [.ref f0]) (vs := vs ++ [.ref f0]) lk hcd S hr e0 hb (rv.append (.cons (show L2.RelV (.ref f0) (.ref f0) from rfl) .nil)) hlv fun hr' => ?_
  have hc : CtxS (cxOf (L2.CX P w) P w K mg base N qual (defScope st) f cdv A outer s H E) N (defScope st) k { G with hb := some (f0, clo) } nm xa :=
    { hN := rfl, nd := S.nd, hsc := rfl, calm := rfl, room := hr', g := ⟨g.fn, g.gc, g.bt, g.me, g.ed, g.em, g.hf⟩, hk := S.kind, fn := fun _ => rfl, pas := passes_of rfl, ex := rfl, tbk := fun n Q q z => by rw [show ({ G with hb := some (f0, clo) } : Gam).tb = G.tb from rfl, htb] at z; cases z }
  refine ⟨_, (cmd hc c).2 _ hm, B, th, (fun f1 clo1 z => ?_), B, H, th, _, mu, B, th, { nx := fun _ u => d = .non ∧ u = mu', rt := fun d' u => d' = d ∧ u = mu' }, ⟨start_SR sc (rs.append (.cons (.fn f0) .nil)), .refl _ _ _, fun j c a h _ => (start_own h).elim, .refl _, List.prefix_refl _⟩, ⟨fun B1 H1 th1 m1 r1 g1 s1 w1 => ?_, fun v d1 B1 H1 th1 m1 s1 f1 r1 w1 => ?_, fun _ _ _ _ _ _ _ z => z.elim, fun _ _ _ _ _ _ _ z => z.elim⟩, w0⟩
  · cases z
    exact ⟨hk, F0, body, hB, hof⟩
  · obtain ⟨e1, e2⟩ := w1
    subst e1 e2
    exact hend .non B1 H1 th1 s1.toSRc s1.fut .non
  · obtain ⟨e1, e2⟩ := w1
    subst e1 e2
    exact hend v B1 H1 th1 s1 f1 r1

/-! ### the table of defs -/
def Gam.add (G : Gam) (f : Nat) (F : Fn) : Gam := { G with fn := fun g => if g = f then some F else G.fn g }
theorem GOk.mono (g : GOk P w K mg base k G nm xa) {j : Nat} (h : k ≤ j) : GOk P w K mg base j G nm xa :=
  ⟨fun f F e => by
    obtain ⟨a, fd, ps, h1, h2, h3, h4, h5⟩ := g.fn f F e
    exact ⟨a, fd, ps, h1, h2, h3, h4, h5.mono h⟩, g.gc, g.bt, fun m F e => by
    obtain ⟨C, a, fd, ps, i, h1, h2, h3, h4, h5⟩ := g.me m F e
    refine ⟨C, a, fd, ps, i, h1, ?_, h3, h4, h5⟩
    split at h2
    · rename_i z; rw [if_pos z]; exact ⟨h2.1, Nat.le_trans h2.2 h⟩
    · rename_i z; rw [if_neg z]; exact ⟨h2.1, Nat.le_trans h2.2 h⟩, g.ed, g.em, fun q HF e => by
    obtain ⟨a, h1, h2, h3⟩ := g.hf q HF e
    exact ⟨a, h1, h2, h3.mono h⟩⟩
theorem GOk.addW (g : GOk P w K mg base k G nm xa) {f : Addr} {fd : FuncData} {ps : List Str} {i : Nat} {Fx : Fn} (kp : PySem.W.keepIn K (.ref f) = true) (ok : FnOk P w K mg base (L2.CX P w) (k + 1) f fd ps (spOf K xa ps.length Fx))
    (b : Binds K fd ps []) (hn : mg (nm.fn i) = some (.ref f)) (ha : ps.length = G.ar i) : GOk P w K mg base (k + 1) (G.add i Fx) nm xa := by
  have gm := g.mono (Nat.le_succ k)
  refine ⟨fun j Fj e => ?_, g.gc, g.bt, gm.me, g.ed, g.em, gm.hf⟩
  by_cases z : j = i
  · subst z
    have e' : (if j = j then some Fx else G.fn j) = some Fj := e
    rw [if_pos rfl] at e'
    cases e'
    exact ⟨f, fd, ps, hn, kp, b, ha, by rw [show (G.add j Fx).ar j = ps.length from ha.symm]; exact ok⟩
  · have e' : (if j = i then some Fx else G.fn j) = some Fj := e
    rw [if_neg z] at e'
    obtain ⟨a, fd', ps', h1, h2, h3, h4, h5⟩ := g.fn j Fj e'
    exact ⟨a, fd', ps', h1, h2, h3, h4, h5.mono (Nat.le_succ _)⟩
theorem GOk.add (g : GOk P w K mg base k G nm xa) {x qual : Str} {st : Stmt} {f : Addr} {fd : FuncData} {N ps : List Str} {i : Nat} (F : L2.Fun K x qual st f fd) (S : FnScope N ps (defScope st)) {c : Cm} (hm : mB nm N (defScope st) c (defBody st) = true) {Fx : Fn} (good : Good G c N.length ps.length Fx)
    (b : Binds K fd ps []) (hn : mg (nm.fn i) = some (.ref f)) (ha : ps.length = G.ar i) (hhb : G.hb = none := by rfl) (htb : G.tb = none := by rfl) : GOk P w K mg base (k + 1) (G.add i Fx) nm xa :=
  g.addW F.kp (def_ok g F S hm good hhb htb) b hn ha
/-- the same with the def's own table -/
def Gam.tab (G : Gam) (n : Nat) (P : Addr) (q : Str) : Gam := { G with tb := some (n, P, q) }
theorem GOk.tab (g : GOk P w K mg base k G nm xa) (n : Nat) (P' : Addr) (q : Str) : GOk P w K mg base k (G.tab n P' q) nm xa := ⟨g.fn, g.gc, g.bt, g.me, g.ed, g.em, g.hf⟩
/-- a def that makes lambdas -/
theorem GOk.addT (g : GOk P w K mg base k G nm xa) {x qual : Str} {st : Stmt} {f : Addr} {fd : FuncData} {N ps : List Str} {i : Nat} {n : Nat} {P' : Addr} {q : Str} (F : L2.Fun K x qual st f fd) (S : FnScope N ps (defScope st)) {c : Cm} (hm : mB nm N (defScope st) c (defBody st) = true) {Fx : Fn} (good : Good (G.tab n P' q) c N.length ps.length Fx)
    (b : Binds K fd ps []) (hn : mg (nm.fn i) = some (.ref f)) (ha : ps.length = G.ar i) (hq : (qual ++ ".<locals>.") ++ "<lambda>" = q) (ht : ∃ c, LamX.TabB base mg c P' ∧ fd.code = .ref c) (hhb : G.hb = none := by rfl) : GOk P w K mg base (k + 1) (G.add i Fx) nm xa :=
  g.addW F.kp (def_okT (g.tab n P' q) F S hm good hhb fun n1 P1 q1 z => by cases z; exact ⟨hq, ht⟩) b hn ha
def Gam.addH (G : Gam) (f : Nat) (HF : Addr → Fn → Fn) : Gam := { G with hf := fun g => if g = f then some HF else G.hf g }
/-- a def that takes a function -/
theorem GOk.addH (g : GOk P w K mg base k G nm xa) {f : Addr} {ar i : Nat} {HF : Addr → Fn → Fn} (kp : PySem.W.keepIn K (.ref f) = true) (ok : HfOk P w K mg base (k + 1) f xa ar HF) (hn : mg (nm.fn i) = some (.ref f)) (ha : ar = G.ar i) : GOk P w K mg base (k + 1) (G.addH i HF) nm xa := by
  have gm := g.mono (Nat.le_succ k)
  refine ⟨gm.fn, g.gc, g.bt, gm.me, g.ed, g.em, fun j HFj e => ?_⟩
  by_cases z : j = i
  · subst z
    have e' : (if j = j then some HF else G.hf j) = some HFj := e
    rw [if_pos rfl] at e'
    cases e'
    exact ⟨f, hn, kp, by rw [show (G.addH j HF).ar j = ar from ha.symm]; exact ok⟩
  · have e' : (if j = i then some HF else G.hf j) = some HFj := e
    rw [if_neg z] at e'
    exact gm.hf j HFj e'
def Gam.addM (G : Gam) (m : Nat) (F : Fn) : Gam := { G with me := fun g => if g = m then some F else G.me g }
/-- a method more -/
theorem GOk.addM (g : GOk P w K mg base k G nm xa) {x qual : Str} {st : Stmt} {f : Addr} {fd : FuncData} {N ps : List Str} {m : Nat} (F : L2.Fun K x qual st f fd) (S : FnScope N ps (defScope st)) {c : Cm} (hm : mB nm N (defScope st) c (defBody st) = true) {Fx : Fn} (good : Good G c N.length ps.length Fx)
    (b : Binds K fd ps []) (he : G.ed = true) {C : Addr} (hC : EdC K C) (hn : if m = 0 then L2.Mk K C f else Meth K C (mName m) f) (ha : ps.length = mAr m) (hhb : G.hb = none := by rfl) (htb : G.tb = none := by rfl) : GOk P w K mg base (k + 2) (G.addM m Fx) nm xa := by
  have ok := def_ok g F S hm good hhb htb
  have gm := g.mono (Nat.le_add_right k 2)
  refine ⟨gm.fn, g.gc, g.bt, fun j Fj e => ?_, g.ed, fun _ _ _ => he, gm.hf⟩
  by_cases z : j = m
  · subst z
    have e' : (if j = j then some Fx else G.me j) = some Fj := e
    rw [if_pos rfl] at e'
    cases e'
    refine ⟨C, f, fd, ps, k + 1, hC, ?_, b, ha, by rw [← ha]; exact ok⟩
    split at hn
    · rename_i z; rw [if_pos z]; exact ⟨hn, Nat.le_refl _⟩
    · rename_i z; rw [if_neg z]; exact ⟨hn, Nat.le_succ _⟩
  · have e' : (if j = m then some Fx else G.me j) = some Fj := e
    rw [if_neg z] at e'
    exact gm.me j Fj e'
/-- a table without defs -/
theorem GOk.zero {ar : Nat → Nat} {gc : Nat → Option Int} (hg : ∀ g i, gc g = some i → ∃ t, mg (nm.gc g) = some (.int i t)) (hb : ∀ x ∈ bltAll, mg x = none) : GOk P w K mg base 0 { fn := fun _ => none, ar := ar, gc := gc, me := fun _ => none, ed := false } nm xa :=
  ⟨fun _ _ h => (nomatch h), hg, hb, fun _ _ h => (nomatch h), fun h => (nomatch h), fun _ _ h => (nomatch h), fun _ _ h => (nomatch h)⟩
theorem GOk.zeroC {ar : Nat → Nat} {gc : Nat → Option Int} (hg : ∀ g i, gc g = some i → ∃ t, mg (nm.gc g) = some (.int i t)) (hb : ∀ x ∈ bltAll, mg x = none) {C : Addr} (hC : EdC K C) (c1 : Cls K C) (c2 : NoAttr K C "states") (c3 : mg "Editor" = some (.ref C)) : GOk P w K mg base 0 { fn := fun _ => none, ar := ar, gc := gc, me := fun _ => none, ed := true } nm xa :=
  ⟨fun _ _ h => (nomatch h), hg, hb, fun _ _ h => (nomatch h), fun _ D hD => by rw [← hC.eq hD]; exact ⟨c1, c2, c3⟩, fun _ _ h => (nomatch h), fun _ _ h => (nomatch h)⟩
/-- the law: for every script true -/
theorem law_sp {xa : Nat → Addr} {F : Fn} {H : Hp} {a : Addr} {ns : List Int} (hS : SqL K H a (ns.map V.int)) (h : ∃ mu', F [.lst (ns.map .int)] [] = some (.ok (.bl true) mu')) : spOf K xa 1 F [.ref a] H (fun v _ => v = .bl true) fun _ _ _ => False := by
  obtain ⟨mu', e⟩ := h
  refine ⟨rfl, H, [], [], [.lst (ns.map .int)], _, ⟨.refl _, rfl, fun n c h => by simp at h, List.nodup_nil⟩, .cons (.lst hS (Reps.ofInts ns)) .nil, e, ?_⟩
  intro v B' H' th' _ _ r
  cases r
  rfl
end

/-! ### what a def does, by its arguments -/
/-- arguments by an encoding; where it is told; value and store -/
noncomputable def mkF {α : Type} (enc : α → List Dat) (dom : α → Store → Prop) (f : α → Store → Dat × Store) : Fn := fun ds mu =>
  open Classical in if h : ∃ a, ds = enc a ∧ dom a mu then some (.ok (f (Classical.choose h) mu).1 (f (Classical.choose h) mu).2) else none
theorem mkF_at {α : Type} {enc : α → List Dat} {dom : α → Store → Prop} {f : α → Store → Dat × Store} (inj : ∀ a b, enc a = enc b → a = b) {a : α} {mu : Store} (h : dom a mu) : mkF enc dom f (enc a) mu = some (.ok (f a mu).1 (f a mu).2) := by
  have hx : ∃ b, enc a = enc b ∧ dom b mu := ⟨a, rfl, h⟩
  unfold mkF
  rw [dif_pos hx]
  have e := inj _ _ (Classical.choose_spec hx).1
  rw [← e]
theorem mkF_good {α : Type} {enc : α → List Dat} {dom : α → Store → Prop} {f : α → Store → Dat × Store} {G : Gam} {c : Cm} {n ar : Nat}
    (h : ∀ a mu, dom a mu → wpS G c { nx := fun _ u => (f a mu).1 = .non ∧ u = (f a mu).2, rt := fun d' u => d' = (f a mu).1 ∧ u = (f a mu).2 } (startE n (enc a)) mu) : Good G c n ar (mkF enc dom f) := by
  intro ds mu r _ e
  unfold mkF at e
  split at e
  · rename_i hx
    cases e
    obtain ⟨e1, e2⟩ := Classical.choose_spec hx
    refine ⟨_, _, rfl, ?_⟩
    have w := h _ mu e2
    rw [← e1] at w
    exact w
  · cases e
end Lin

set_option maxHeartbeats 1000000
/-! Lin, part V: how wpS and ev go on, as rewriting rules. -/
namespace Lin
open PySem PySem.Spec

/-! ### combinators -/
def bdB {β : Type} (x : Option (Hd × Store)) (k : Bool → Store → Option (β × Store)) : Option (β × Store) := match x with
  | some (.dat (.bl b), mu) => k b mu
  | _ => none
def bdI {β : Type} (x : Option (Hd × Store)) (k : Int → Store → Option (β × Store)) : Option (β × Store) := match x with
  | some (.dat (.int b), mu) => k b mu
  | _ => none
def obB {β : Type} (x : Option Bool) (k : Bool → Option (β × Store)) : Option (β × Store) := match x with
  | some b => k b
  | none => none
section
variable {β : Type} {mu : Store}
@[simp] theorem bdB_some (b : Bool) (k : Bool → Store → Option (β × Store)) : bdB (some (.dat (.bl b), mu)) k = k b mu := (rfl)
@[simp] theorem bdI_some (b : Int) (k : Int → Store → Option (β × Store)) : bdI (some (.dat (.int b), mu)) k = k b mu := (rfl)
@[simp] theorem obB_some (b : Bool) (k : Bool → Option (β × Store)) : obB (some b) k = k b := (rfl)
variable {p : Prop} [Decidable p]
@[simp] theorem bdB_ite (x y : Option (Hd × Store)) (k : Bool → Store → Option (β × Store)) : bdB (if p then x else y) k = if p then bdB x k else bdB y k := by split <;> rfl
@[simp] theorem bdI_ite (x y : Option (Hd × Store)) (k : Int → Store → Option (β × Store)) : bdI (if p then x else y) k = if p then bdI x k else bdI y k := by split <;> rfl
@[simp] theorem bdD_ite (x y : Option (Hd × Store)) (k : Dat → Store → Option (β × Store)) : bdD (if p then x else y) k = if p then bdD x k else bdD y k := by split <;> rfl
@[simp] theorem bd_ite {α : Type} (x y : Option (α × Store)) (k : α → Store → Option (β × Store)) : bd (if p then x else y) k = if p then bd x k else bd y k := by split <;> rfl
@[simp] theorem obB_ite (x y : Option Bool) (k : Bool → Option (β × Store)) : obB (if p then x else y) k = if p then obB x k else obB y k := by split <;> rfl
@[simp] theorem wD_ite (x y : Option (Hd × Store)) (Q : Dat → Store → Prop) : wD (if p then x else y) Q = if p then wD x Q else wD y Q := by split <;> rfl
@[simp] theorem wB_ite (x y : Option (Hd × Store)) (Q : Bool → Store → Prop) : wB (if p then x else y) Q = if p then wB x Q else wB y Q := by split <;> rfl
@[simp] theorem wO_ite {α : Type} (x y : Option (α × Store)) (Q : α → Store → Prop) : wO (if p then x else y) Q = if p then wO x Q else wO y Q := by split <;> rfl
@[simp] theorem and_ite (u : Bool) : (if p then some (Hd.dat (.bl u), mu) else some (.dat (.bl false), mu)) = some (.dat (.bl (decide p && u)), mu) := by
  by_cases h : p <;> simp [h]
@[simp] theorem or_ite (u : Bool) : (if p then some (Hd.dat (.bl true), mu) else some (.dat (.bl u), mu)) = some (.dat (.bl (decide p || u)), mu) := by
  by_cases h : p <;> simp [h]
@[simp] theorem dn_ite (x y : Option Dat) : dn (if p then x else y) mu = if p then dn x mu else dn y mu := by split <;> rfl
@[simp] theorem omap_ite {α : Type} (f : α → β) (x y : Option α) : Option.map f (if p then x else y) = if p then x.map f else y.map f := by split <;> rfl
end

/-! ### expressions -/
section
variable {G : Gam} {rho : Env} {mu : Store}
def varH (i : Nat) : Option (Option Slot) → Option Hd
  | some (some (.dat d)) => some (.dat d)
  | some (some (.own _)) => some (.own i)
  | _ => none
@[simp] theorem varH_dat (i : Nat) (d : Dat) : varH i (some (some (.dat d))) = some (.dat d) := (rfl)
@[simp] theorem varH_own (i : Nat) (c : Cell) : varH i (some (some (.own c))) = some (.own i) := (rfl)
@[simp] theorem xv_var (i : Nat) : ev G (.var i) rho mu = (varH i rho[i]?).map fun h => (h, mu) := by
  show (match rho[i]? with
    | some (some (.dat d)) => some (Hd.dat d, mu)
    | some (some (.own _)) => some (.own i, mu)
    | _ => none) = _
  cases rho[i]? with
  | none => rfl
  | some o =>
    cases o with
    | none => rfl
    | some s => cases s <;> rfl
@[simp] theorem xv_int (i : Int) : ev G (.int i) rho mu = some (.dat (.int i), mu) := (rfl)
@[simp] theorem xv_bl (i : Bool) : ev G (.bl i) rho mu = some (.dat (.bl i), mu) := (rfl)
@[simp] theorem xv_non : ev G .non rho mu = some (.dat .non, mu) := (rfl)
@[simp] theorem xv_str (x : Str) : ev G (.str x) rho mu = some (.dat (.str x), mu) := (rfl)
@[simp] theorem xv_glob (g : Nat) : ev G (.glob g) rho mu = dn ((G.gc g).map .int) mu := (rfl)
@[simp] theorem xv_tup (a : E) : ev G (.tup a) rho mu = bd (evA G a rho mu) fun ds mu1 => if ds.length ≤ cap then some (.dat (.tup ds), mu1) else none := (rfl)
@[simp] theorem xv_lst (a : E) : ev G (.lst a) rho mu = bd (evA G a rho mu) fun ds mu1 => if ds.length ≤ cap then some (.dat (.lst ds), mu1) else none := (rfl)
@[simp] theorem xv_op (o : AOp) (a b : E) : ev G (.op o a b) rho mu = bd (ev G a rho mu) fun x mu1 => bd (ev G b rho mu1) fun y mu2 => dn (opD rho mu2 o x y) mu2 := (rfl)
@[simp] theorem xv_rep (a n : E) : ev G (.rep a n) rho mu = bd (evA G a rho mu) fun ds mu1 => bdI (ev G n rho mu1) fun k mu2 =>
    if ds.length ≤ cap ∧ 0 ≤ k ∧ k ≤ cap ∧ ds.length * k.toNat ≤ cap then some (.dat (.lst (List.replicate k.toNat ds).flatten), mu2) else none := by
  show bd (evA G a rho mu) _ = bd (evA G a rho mu) _
  congr 1
  funext ds mu1
  unfold bdD bdI
  cases ev G n rho mu1 with
  | none => rfl
  | some p =>
    obtain ⟨h, m⟩ := p
    cases h with
    | own _ => rfl
    | dat d => cases d <;> rfl
@[simp] theorem xv_neg (a : E) : ev G (.neg a) rho mu = bdI (ev G a rho mu) fun i mu1 => some (.dat (.int (-i)), mu1) := by
  show bdD (ev G a rho mu) _ = _
  unfold bdD bdI
  cases ev G a rho mu with
  | none => rfl
  | some p =>
    obtain ⟨h, m⟩ := p
    cases h with
    | own _ => rfl
    | dat d => cases d <;> rfl
@[simp] theorem xv_cmp (o : COp) (a b : E) : ev G (.cmp o a b) rho mu = bd (ev G a rho mu) fun x mu1 => bd (ev G b rho mu1) fun y mu2 => obB (cmpD rho mu2 o x y) fun t => some (.dat (.bl t), mu2) := by
  show bd (ev G a rho mu) _ = bd (ev G a rho mu) _
  congr 1
  funext x mu1
  congr 1
  funext y mu2
  cases cmpD rho mu2 o x y <;> rfl
@[simp] theorem xv_chain (o o' : COp) (a b c : E) : ev G (.chain o o' a b c) rho mu = bd (ev G a rho mu) fun x mu1 => bd (ev G b rho mu1) fun y mu2 => obB (cmpD rho mu2 o x y) fun t =>
    if t = true then bd (ev G c rho mu2) fun z mu3 => obB (cmpD rho mu3 o' y z) fun t => some (.dat (.bl t), mu3) else some (.dat (.bl false), mu2) := by
  show bd (ev G a rho mu) _ = bd (ev G a rho mu) _
  congr 1
  funext x mu1
  congr 1
  funext y mu2
  cases cmpD rho mu2 o x y with
  | none => rfl
  | some t =>
    cases t with
    | false => rfl
    | true =>
      rw [obB_some, if_pos rfl]
      show bd (ev G c rho mu2) _ = bd (ev G c rho mu2) _
      congr 1
      funext z mu3
      cases cmpD rho mu3 o' y z <;> rfl
@[simp] theorem xv_and (a : E) : ev G (.and a) rho mu = evAnd G a rho mu := (rfl)
@[simp] theorem xv_or (a : E) : ev G (.or a) rho mu = evOr G a rho mu := (rfl)
theorem bdD_isB {β : Type} (x : Option (Hd × Store)) (k : Dat → Store → Option (β × Store)) (k' : Bool → Store → Option (β × Store)) (h : ∀ b mu, k (.bl b) mu = k' b mu) (h2 : ∀ d mu, (∀ b, d ≠ .bl b) → k d mu = none) : bdD x k = bdB x k' := by
  unfold bdD bdB
  cases x with
  | none => rfl
  | some p =>
    obtain ⟨q, m⟩ := p
    cases q with
    | own _ => rfl
    | dat d => cases d <;> first | exact h _ _ | exact h2 _ _ (fun _ z => by cases z)
@[simp] theorem evAnd_one (a : E) : evAnd G (.acons a .anil) rho mu = bdB (ev G a rho mu) fun b mu1 => some (.dat (.bl b), mu1) :=
  bdD_isB _ _ _ (fun _ _ => rfl) fun d mu h => by cases d <;> first | rfl | exact absurd rfl (h _)
@[simp] theorem evAnd_cons (a b r : E) : evAnd G (.acons a (.acons b r)) rho mu = bdB (ev G a rho mu) fun t mu1 => if t = true then evAnd G (.acons b r) rho mu1 else some (.dat (.bl false), mu1) :=
  bdD_isB _ _ _ (fun b _ => by cases b <;> rfl) fun d mu h => by cases d <;> first | rfl | exact absurd rfl (h _)
@[simp] theorem evOr_one (a : E) : evOr G (.acons a .anil) rho mu = bdB (ev G a rho mu) fun b mu1 => some (.dat (.bl b), mu1) :=
  bdD_isB _ _ _ (fun _ _ => rfl) fun d mu h => by cases d <;> first | rfl | exact absurd rfl (h _)
@[simp] theorem evOr_cons (a b r : E) : evOr G (.acons a (.acons b r)) rho mu = bdB (ev G a rho mu) fun t mu1 => if t = true then some (.dat (.bl true), mu1) else evOr G (.acons b r) rho mu1 :=
  bdD_isB _ _ _ (fun b _ => by cases b <;> rfl) fun d mu h => by cases d <;> first | rfl | exact absurd rfl (h _)
@[simp] theorem xv_not (a : E) : ev G (.not a) rho mu = bdB (ev G a rho mu) fun b mu1 => some (.dat (.bl (!b)), mu1) :=
  bdD_isB _ _ _ (fun _ _ => rfl) fun d mu h => by cases d <;> first | rfl | exact absurd rfl (h _)
@[simp] theorem xv_ite (c a b : E) : ev G (.ite c a b) rho mu = bdB (ev G c rho mu) fun t mu1 => if t = true then ev G a rho mu1 else ev G b rho mu1 :=
  bdD_isB _ _ _ (fun b _ => by cases b <;> rfl) fun d mu h => by cases d <;> first | rfl | exact absurd rfl (h _)
@[simp] theorem xv_ix (a i : E) : ev G (.ix a i) rho mu = bd (ev G a rho mu) fun x mu1 => bdD (ev G i rho mu1) fun k mu2 => dn (ixD rho mu2 x k) mu2 := (rfl)
@[simp] theorem xv_dgt (d k z : E) : ev G (.dgt d k z) rho mu = bd (ev G d rho mu) fun x mu1 => if (dicOf rho mu1 x).isSome = true then bdD (ev G k rho mu1) fun y mu2 => bdD (ev G z rho mu2) fun u mu3 => dn (dgetZ rho mu3 x y u) mu3 else none := (rfl)
@[simp] theorem xv_slc (a lo hi : E) : ev G (.slc a lo hi) rho mu = bd (ev G a rho mu) fun x mu1 => bd (evO G lo rho mu1) fun l mu2 => bd (evO G hi rho mu2) fun h mu3 => dn (slcD rho mu3 x l h) mu3 := (rfl)
@[simp] theorem xv_call (f : Nat) (as : E) : ev G (.call f as) rho mu = bd (evA G as rho mu) fun ds mu1 => callD G f ds mu1 := (rfl)
@[simp] theorem xv_blt (b : Bt) (as : E) : ev G (.blt b as) rho mu = bd (evHs G as rho mu) fun xs mu1 => dn (bltD rho mu1 b xs) mu1 := (rfl)
@[simp] theorem xv_lcX (own : List (Str × Nat)) (tg : T) (it ifs elt : E) : ev G (.lc own tg it ifs elt) rho mu = bd (evI G it rho mu) fun xs mu1 => if xs.length ≤ cap then
      bd (lcGo (fun x => bindT tg x (wipeE rho (own.map (·.2)))) (fun rho' mu' => evTs G ifs rho' mu') (fun rho' mu' => bdD (ev G elt rho' mu') fun d mu2 => some (d, mu2)) xs mu1) fun ds mu2 => some (.dat (.lst ds), mu2)
    else none := (rfl)
@[simp] theorem xv_tupR3 (a b : E) : ev G (.tupR3 a b) rho mu = bdD (ev G a rho mu) fun x mu1 => bdD (ev G b rho mu1) fun y mu2 => dn (rg2D x y) mu2 := (rfl)
@[simp] theorem xv_tupR1 (b : E) : ev G (.tupR1 b) rho mu = bdD (ev G b rho mu) fun y mu2 => dn (rgD .tup (.int 0) y) mu2 := (rfl)
@[simp] theorem xv_lstR1 (b : E) : ev G (.lstR1 b) rho mu = bdD (ev G b rho mu) fun y mu2 => dn (rgD .lst (.int 0) y) mu2 := (rfl)
@[simp] theorem xv_lstR2 (a b : E) : ev G (.lstR2 a b) rho mu = bdD (ev G a rho mu) fun x mu1 => bdD (ev G b rho mu1) fun y mu2 => dn (rgD .lst x y) mu2 := (rfl)
@[simp] theorem xv_isi (a : E) (k : Kd) : ev G (.isi a k) rho mu = bdD (ev G a rho mu) fun d mu1 => dn ((isK d k).map .bl) mu1 := (rfl)
def revX : Dat → Option Dat
  | .tup ds => some (.tup ds.reverse)
  | _ => none
@[simp] theorem revX_tup (ds : List Dat) : revX (.tup ds) = some (.tup ds.reverse) := (rfl)
@[simp] theorem xv_revT (a : E) : ev G (.revT a) rho mu = bdD (ev G a rho mu) fun d mu1 => dn (revX d) mu1 := by
  show bdD (ev G a rho mu) _ = bdD (ev G a rho mu) _
  congr 1
  funext d mu1
  cases d <;> rfl
def ssetX : Dat → Option Dat
  | .tup ds => match ints? ds with
    | some ns => if ns.length ≤ 1000 ∧ (setI ns).length < 64 then some (.lst ((setI ns).map .int)) else none
    | none => none
  | .lst ds => match ints? ds with
    | some ns => if ns.length ≤ 1000 ∧ (setI ns).length < 64 then some (.lst ((setI ns).map .int)) else none
    | none => none
  | _ => none
def lzipX (x y : Dat) : Option Dat := match x, y with
  | .tup xs, .tup ys => if xs.length ≤ cap then some (.lst (zipD xs ys)) else none
  | _, _ => none
@[simp] theorem lzipX_tup (xs ys : List Dat) : lzipX (.tup xs) (.tup ys) = if xs.length ≤ cap then some (.lst (zipD xs ys)) else none := (rfl)
@[simp] theorem xv_lzip (a b : E) : ev G (.lzip a b) rho mu = bdD (ev G a rho mu) fun x mu1 => bdD (ev G b rho mu1) fun y mu2 => dn (lzipX x y) mu2 := by
  show bdD (ev G a rho mu) _ = bdD (ev G a rho mu) _
  congr 1
  funext x mu1
  congr 1
  funext y mu2
  cases x with
  | tup xs =>
    cases y with
    | tup ys =>
      show (if xs.length ≤ cap then some (Hd.dat (.lst (zipD xs ys)), mu2) else none) = dn (if xs.length ≤ cap then some (Dat.lst (zipD xs ys)) else none) mu2
      split <;> rfl
    | _ => rfl
  | _ => rfl
theorem ssetX_lst {ns : List Int} (h : ns.length ≤ 1000) (h2 : (setI ns).length < 64) : ssetX (.lst (ns.map .int)) = some (.lst ((setI ns).map .int)) := by
  show (match ints? (ns.map Dat.int) with | some ns => if ns.length ≤ 1000 ∧ (setI ns).length < 64 then some (Dat.lst ((setI ns).map .int)) else none | none => none) = _
  rw [ints?_map]
  exact if_pos ⟨h, h2⟩
theorem ssetX_tup {ns : List Int} (h : ns.length ≤ 1000) (h2 : (setI ns).length < 64) : ssetX (.tup (ns.map .int)) = some (.lst ((setI ns).map .int)) := by
  show (match ints? (ns.map Dat.int) with | some ns => if ns.length ≤ 1000 ∧ (setI ns).length < 64 then some (Dat.lst ((setI ns).map .int)) else none | none => none) = _
  rw [ints?_map]
  exact if_pos ⟨h, h2⟩
@[simp] theorem xv_sset (a : E) : ev G (.sset a) rho mu = bdD (ev G a rho mu) fun d mu1 => dn (ssetX d) mu1 := by
  show bdD (ev G a rho mu) _ = bdD (ev G a rho mu) _
  congr 1
  funext d mu1
  cases d with
  | tup ds =>
    show (match ints? ds with | some ns => if ns.length ≤ 1000 ∧ (setI ns).length < 64 then some (Hd.dat (.lst ((setI ns).map .int)), mu1) else none | none => none) = dn (match ints? ds with | some ns => if ns.length ≤ 1000 ∧ (setI ns).length < 64 then some (Dat.lst ((setI ns).map .int)) else none | none => none) mu1
    cases ints? ds with
    | none => rfl
    | some ns =>
      show (if _ then _ else _) = dn (if _ then _ else _) mu1
      split <;> rfl
  | lst ds =>
    show (match ints? ds with | some ns => if ns.length ≤ 1000 ∧ (setI ns).length < 64 then some (Hd.dat (.lst ((setI ns).map .int)), mu1) else none | none => none) = dn (match ints? ds with | some ns => if ns.length ≤ 1000 ∧ (setI ns).length < 64 then some (Dat.lst ((setI ns).map .int)) else none | none => none) mu1
    cases ints? ds with
    | none => rfl
    | some ns =>
      show (if _ then _ else _) = dn (if _ then _ else _) mu1
      split <;> rfl
  | _ => rfl
@[simp] theorem xv_isiT (a : E) (ks : List Kd) : ev G (.isiT a ks) rho mu = bdD (ev G a rho mu) fun d mu1 => dn ((isKs d ks).map .bl) mu1 := (rfl)
@[simp] theorem evA_nil : evA G .anil rho mu = some ([], mu) := (rfl)
@[simp] theorem evA_cons (a r : E) : evA G (.acons a r) rho mu = bdD (ev G a rho mu) fun d mu1 => bd (evA G r rho mu1) fun ds mu2 => some (d :: ds, mu2) := (rfl)
@[simp] theorem evHs_nil : evHs G .anil rho mu = some ([], mu) := (rfl)
@[simp] theorem evHs_cons (a r : E) : evHs G (.acons a r) rho mu = bd (ev G a rho mu) fun d mu1 => bd (evHs G r rho mu1) fun ds mu2 => some (d :: ds, mu2) := (rfl)
@[simp] theorem evO_nil : evO G .anil rho mu = some (none, mu) := (rfl)
theorem bdD_isI {β : Type} (x : Option (Hd × Store)) (k : Dat → Store → Option (β × Store)) (k' : Int → Store → Option (β × Store)) (h : ∀ b mu, k (.int b) mu = k' b mu) (h2 : ∀ d mu, (∀ b, d ≠ .int b) → k d mu = none) : bdD x k = bdI x k' := by
  unfold bdD bdI
  cases x with
  | none => rfl
  | some p =>
    obtain ⟨q, m⟩ := p
    cases q with
    | own _ => rfl
    | dat d => cases d <;> first | exact h _ _ | exact h2 _ _ (fun _ z => by cases z)
@[simp] theorem evO_one (a : E) : evO G (.acons a .anil) rho mu = bdI (ev G a rho mu) fun i mu1 => some (some i, mu1) :=
  bdD_isI _ _ _ (fun _ _ => rfl) fun d mu h => by cases d <;> first | rfl | exact absurd rfl (h _)
@[simp] theorem evTs_nil : evTs G .anil rho mu = some (true, mu) := (rfl)
@[simp] theorem evTs_one (a : E) : evTs G (.acons a .anil) rho mu = bdB (ev G a rho mu) fun b mu1 => some (b, mu1) :=
  bdD_isB _ _ _ (fun _ _ => rfl) fun d mu h => by cases d <;> first | rfl | exact absurd rfl (h _)
@[simp] theorem evI_range1 (a : E) : evI G (.range1 a) rho mu = bdI (ev G a rho mu) fun n mu1 => if smallI n then some (rangeD 0 n.toNat, mu1) else none :=
  bdD_isI _ _ _ (fun _ _ => rfl) fun d mu h => by cases d <;> first | rfl | exact absurd rfl (h _)
@[simp] theorem evI_range2 (a b : E) : evI G (.range2 a b) rho mu = bdI (ev G a rho mu) fun i mu1 => bdI (ev G b rho mu1) fun j mu2 => if smallI i ∧ smallI j then some (rangeD i (j - i).toNat, mu2) else none := by
  refine bdD_isI _ _ _ (fun i mu1 => ?_) fun d mu h => ?_
  · exact bdD_isI _ _ _ (fun _ _ => rfl) fun d mu h => by cases d <;> first | rfl | exact absurd rfl (h _)
  · unfold bdD
    cases ev G b rho mu with
    | none => rfl
    | some p =>
      obtain ⟨q, m⟩ := p
      cases q with
      | own _ => rfl
      | dat d' => cases d <;> first | rfl | exact absurd rfl (h _)
@[simp] theorem evI_zip (a b : E) : evI G (.zip a b) rho mu = bdD (ev G a rho mu) fun x mu1 => bdD (ev G b rho mu1) fun y mu2 => (zipX x y).map fun l => (l, mu2) := by
  show bdD (ev G a rho mu) _ = bdD (ev G a rho mu) _
  congr 1
  funext x mu1
  show bdD (ev G b rho mu1) _ = bdD (ev G b rho mu1) _
  congr 1
  funext y mu2
  cases zipX x y <;> rfl
def enumX : Dat → Option (List Dat)
  | .lst l => some (enumD 0 l)
  | .tup l => some (enumD 0 l)
  | _ => none
@[simp] theorem enumX_lst (l : List Dat) : enumX (.lst l) = some (enumD 0 l) := (rfl)
@[simp] theorem enumX_tup (l : List Dat) : enumX (.tup l) = some (enumD 0 l) := (rfl)
@[simp] theorem evI_enum (a : E) : evI G (.enum a) rho mu = bdD (ev G a rho mu) fun x mu1 => (enumX x).map fun l => (l, mu1) := by
  show bdD (ev G a rho mu) _ = bdD (ev G a rho mu) _
  congr 1
  funext x mu1
  cases x <;> rfl
@[simp] theorem evI_items (a : E) : evI G (.items a) rho mu = bdD (ev G a rho mu) fun x mu1 => (itemsD x).map fun l => (l, mu1) := by
  show bdD (ev G a rho mu) _ = bdD (ev G a rho mu) _
  congr 1
  funext x mu1
  show (match itemsD x with | some l => some (l, mu1) | none => none) = _
  cases itemsD x <;> rfl
@[simp] theorem itemsD_lst (l : List Dat) : itemsD (.lst l) = some l := (rfl)
@[simp] theorem itemsD_tup (l : List Dat) : itemsD (.tup l) = some l := (rfl)
@[simp] theorem zipX_lst (l m : List Dat) : zipX (.lst l) (.lst m) = some (zipD l m) := (rfl)
@[simp] theorem zipX_tup (l m : List Dat) : zipX (.tup l) (.tup m) = some (zipD l m) := (rfl)
theorem callD_at {f : Nat} {ds : List Dat} {F : Fn} {d : Dat} {mu2 : Store} (h1 : G.fn f = some F) (h2 : ds.length = G.ar f) (h3 : F ds mu = some (.ok d mu2)) : callD G f ds mu = some (.dat d, mu2) := by
  unfold callD
  rw [if_pos h2, h1]
  show (match F ds mu with | some (.ok d mu2) => some (Hd.dat d, mu2) | _ => none) = _
  rw [h3]

/-! ### operations -/
@[simp] theorem opD_int (o : AOp) (i j : Int) : opD rho mu o (.dat (.int i)) (.dat (.int j)) = (arith o i j).map .int := (rfl)
@[simp] theorem ar_add (i j : Int) : arith .add i j = some (i + j) := (rfl)
@[simp] theorem ar_sub (i j : Int) : arith .sub i j = some (i - j) := (rfl)
theorem ar_mul {i j : Int} (h : i.natAbs < 18446744073709551616 ∨ j.natAbs < 18446744073709551616) : arith .mul i j = some (i * j) := if_pos h
theorem ar_fdiv {i j : Int} (h : 0 < j ∧ j.natAbs < 2 ^ 8000) : arith .fdiv i j = some (i / j) := if_pos h
theorem ar_mod {i j : Int} (h : 0 < j) : arith .mod i j = some (i % j) := if_pos h
theorem ar_pow {i j : Int} (h : 0 ≤ j ∧ j ≤ 1000000 ∧ i.natAbs < 18446744073709551616) : arith .pow i j = some (i ^ j.toNat) := if_pos h
@[simp] theorem opD_tup (xs ys : List Dat) : opD rho mu .add (.dat (.tup xs)) (.dat (.tup ys)) = if xs.length + ys.length ≤ cap then some (.tup (xs ++ ys)) else none := (rfl)
@[simp] theorem opD_lst (xs ys : List Dat) : opD rho mu .add (.dat (.lst xs)) (.dat (.lst ys)) = if xs.length + ys.length ≤ cap then some (.lst (xs ++ ys)) else none := (rfl)
@[simp] theorem opD_tmul (xs : List Dat) (k : Int) : opD rho mu .mul (.dat (.tup xs)) (.dat (.int k)) = if xs ≠ [] ∧ 0 ≤ k ∧ xs.length ≤ 1000 ∧ k ≤ 3000 then some (.tup (List.replicate k.toNat xs).flatten) else none := (rfl)
@[simp] theorem xc_lt (i j : Int) : cmpD rho mu .lt (.dat (.int i)) (.dat (.int j)) = some (decide (i < j)) := (rfl)
@[simp] theorem xc_le (i j : Int) : cmpD rho mu .le (.dat (.int i)) (.dat (.int j)) = some (decide (i ≤ j)) := (rfl)
@[simp] theorem xc_gt (i j : Int) : cmpD rho mu .gt (.dat (.int i)) (.dat (.int j)) = some (decide (j < i)) := (rfl)
@[simp] theorem xc_ge (i j : Int) : cmpD rho mu .ge (.dat (.int i)) (.dat (.int j)) = some (decide (j ≤ i)) := (rfl)
@[simp] theorem xc_is (d : Dat) : cmpD rho mu .is (.dat d) (.dat .non) = some (isNon d) := by cases d <;> rfl
@[simp] theorem xc_isn (d : Dat) : cmpD rho mu .isn (.dat d) (.dat .non) = some (!isNon d) := by cases d <;> rfl
@[simp] theorem xc_isB (d : Dat) (b : Bool) : cmpD rho mu .is (.dat d) (.dat (.bl b)) = some (match d with | .bl a => a == b | _ => false) := by cases d <;> rfl
@[simp] theorem xc_isnB (d : Dat) (b : Bool) : cmpD rho mu .isn (.dat d) (.dat (.bl b)) = some (match d with | .bl a => !(a == b) | _ => true) := by cases d <;> rfl
@[simp] theorem xc_eq (d e : Dat) : cmpD rho mu .eq (.dat d) (.dat e) = match now rho mu (.dat d), now rho mu (.dat e) with
    | some a, some b => eqD a b
    | _, _ => none := (rfl)
@[simp] theorem xc_ne (d e : Dat) : cmpD rho mu .ne (.dat d) (.dat e) = match now rho mu (.dat d), now rho mu (.dat e) with
    | some a, some b => (eqD a b).map (!·)
    | _, _ => none := (rfl)
@[simp] theorem now_int (i : Int) : now rho mu (.dat (.int i)) = some (.int i) := (rfl)
@[simp] theorem now_non : now rho mu (.dat .non) = some .non := (rfl)
@[simp] theorem now_bl (i : Bool) : now rho mu (.dat (.bl i)) = some (.bl i) := (rfl)
@[simp] theorem now_str (i : Str) : now rho mu (.dat (.str i)) = some (.str i) := (rfl)
@[simp] theorem now_tup (i : List Dat) : now rho mu (.dat (.tup i)) = some (.tup i) := (rfl)
@[simp] theorem now_lst (i : List Dat) : now rho mu (.dat (.lst i)) = some (.lst i) := (rfl)
@[simp] theorem seqA_tup (ds : List Dat) : seqA rho mu (.dat (.tup ds)) = some ds := (rfl)
@[simp] theorem seqA_lst (ds : List Dat) : seqA rho mu (.dat (.lst ds)) = some ds := (rfl)
@[simp] theorem seqA_non : seqA rho mu (.dat .non) = none := (rfl)
@[simp] theorem seqA_int (i : Int) : seqA rho mu (.dat (.int i)) = none := (rfl)
theorem seqA_ref {n : Nat} {ds : List Dat} (h : mu[n]? = some (.lst ds)) : seqA rho mu (.dat (.ref n)) = some ds := by
  show (match mu[n]? with | some (.lst ds) => some ds | _ => none) = _
  rw [h]
theorem seqA_own {n : Nat} {ds : List Dat} (h : rho[n]? = some (some (.own (.lst ds)))) : seqA rho mu (.own n) = some ds := by
  show (match rho.cell n with | some (.lst ds) => some ds | _ => none) = _
  unfold Env.cell
  rw [h]
@[simp] theorem seqA_own' (n : Nat) : seqA rho mu (.own n) = match rho[n]? with
    | some (some (.own (.lst ds))) => some ds
    | _ => none := by
  show (match rho.cell n with | some (.lst ds) => some ds | _ => none) = _
  unfold Env.cell
  cases rho[n]? with
  | none => rfl
  | some o =>
    cases o with
    | none => rfl
    | some s =>
      cases s with
      | dat d => rfl
      | own c => cases c <;> rfl
@[simp] theorem xb_len (h : Hd) : bltD rho mu .len [h] = (seqA rho mu h).map fun ds => .int ds.length := (rfl)
@[simp] theorem xb_tuple (h : Hd) : bltD rho mu .tuple [h] = (seqA rho mu h).map .tup := by
  cases h with
  | own i => rfl
  | dat d => cases d <;> rfl
@[simp] theorem xb_list (h : Hd) : bltD rho mu .list [h] = (seqA rho mu h).map .lst := by
  cases h with
  | own i => rfl
  | dat d => cases d <;> rfl
@[simp] theorem xb_maxI (i j : Int) : bltD rho mu .max [.dat (.int i), .dat (.int j)] = some (.int (max i j)) := (rfl)
@[simp] theorem xb_minI (i j : Int) : bltD rho mu .min [.dat (.int i), .dat (.int j)] = some (.int (min i j)) := (rfl)
@[simp] theorem xb_minI3 (i j k : Int) : bltD rho mu .min [.dat (.int i), .dat (.int j), .dat (.int k)] = some (.int (min (min i j) k)) := (rfl)
theorem xb_sortI {h : Hd} {ns : List Int} (e : seqL rho mu h = some (ns.map .int)) : bltD rho mu .sorted [h] = some (.lst ((sortI ns).map .int)) := by
  have z : bltD rho mu .sorted [h] = match seqL rho mu h with
    | some ds => match ints? ds with
      | some ns => some (.lst ((sortI ns).map .int))
      | none => match pds ds with
        | some ps => if sortOk ps = true then some (.lst (sortD ds)) else none
        | none => none
    | none => match dicOf rho mu h with
      | some (false, kvs) => match dintK kvs with
        | some ns => if ns.length < 64 then some (.lst ((sortI ns).map .int)) else if ns.length ≤ cap then some (.lst ((sortI ns).map .int)) else none
        | none => none
      | some (true, kvs) => match pds (kvs.map (·.1)) with
        | some ps => if sortOk ps = true then some (.lst (sortD (kvs.map (·.1)))) else none
        | none => none
      | _ => none := by
    cases h with
    | own i => rfl
    | dat d => cases d <;> rfl
  rw [z, e]
  show (match ints? (ns.map Dat.int) with | some ns => some (Dat.lst ((sortI ns).map .int)) | none => _) = _
  rw [ints?_map]
theorem xb_sortD {h : Hd} {ds : List Dat} {ps : List PyData} (e : seqL rho mu h = some ds) (e2 : ints? ds = none) (e3 : pds ds = some ps) (ok : sortOk ps = true) : bltD rho mu .sorted [h] = some (.lst (sortD ds)) := by
  have z : bltD rho mu .sorted [h] = match seqL rho mu h with
    | some ds => match ints? ds with
      | some ns => some (.lst ((sortI ns).map .int))
      | none => match pds ds with
        | some ps => if sortOk ps = true then some (.lst (sortD ds)) else none
        | none => none
    | none => match dicOf rho mu h with
      | some (false, kvs) => match dintK kvs with
        | some ns => if ns.length < 64 then some (.lst ((sortI ns).map .int)) else if ns.length ≤ cap then some (.lst ((sortI ns).map .int)) else none
        | none => none
      | some (true, kvs) => match pds (kvs.map (·.1)) with
        | some ps => if sortOk ps = true then some (.lst (sortD (kvs.map (·.1)))) else none
        | none => none
      | _ => none := by
    cases h with
    | own i => rfl
    | dat d => cases d <;> rfl
  rw [z, e]
  show (match ints? ds with | some ns => some (Dat.lst ((sortI ns).map .int)) | none => match pds ds with | some ps => if sortOk ps = true then some (Dat.lst (sortD ds)) else none | none => none) = _
  rw [e2]
  show (match pds ds with | some ps => if sortOk ps = true then some (Dat.lst (sortD ds)) else none | none => none) = _
  rw [e3]
  exact if_pos ok
@[simp] theorem xb_abs (i : Int) : bltD rho mu .abs [.dat (.int i)] = some (.int (if i < 0 then -i else i)) := (rfl)
theorem xb_sum {h : Hd} {ns : List Int} (e : seqA rho mu h = some (ns.map .int)) : bltD rho mu .sum [h] = some (.int ns.sum) := by
  show (match seqA rho mu h with | some ds => (ints? ds).map fun (ns : List Int) => Dat.int ns.sum | none => none) = _
  rw [e]
  simp
theorem xb_max {h : Hd} {n : Int} {ns : List Int} (e : seqA rho mu h = some ((n :: ns).map .int)) : bltD rho mu .max [h] = some (.int (maxI (n :: ns))) := by
  have z : bltD rho mu .max [h] = match seqA rho mu h with
    | some ds => match ints? ds with
      | some (n :: ns) => some (.int (maxI (n :: ns)))
      | _ => none
    | none => none := by
    cases h with
    | own i => rfl
    | dat d => cases d <;> rfl
  rw [z, e]
  show (match ints? ((n :: ns).map Dat.int) with | some (n :: ns) => some (Dat.int (maxI (n :: ns))) | _ => none) = _
  rw [ints?_map]
theorem xb_min {h : Hd} {n : Int} {ns : List Int} (e : seqA rho mu h = some ((n :: ns).map .int)) : bltD rho mu .min [h] = some (.int (minI (n :: ns))) := by
  have z : bltD rho mu .min [h] = match seqA rho mu h with
    | some ds => match ints? ds with
      | some (n :: ns) => some (.int (minI (n :: ns)))
      | _ => none
    | none => none := by
    cases h with
    | own i => rfl
    | dat d => cases d <;> rfl
  rw [z, e]
  show (match ints? ((n :: ns).map Dat.int) with | some (n :: ns) => some (Dat.int (minI (n :: ns))) | _ => none) = _
  rw [ints?_map]
theorem xb_all {bs : List Bool} : bltD rho mu .all [.dat (.lst (bs.map .bl))] = some (.bl (bs.all id)) := by
  show (match seqL rho mu (.dat (.lst (bs.map .bl))) with | some ds => (bls? ds).map fun (bs : List Bool) => Dat.bl (bs.all id) | none => none) = _
  show (bls? (bs.map .bl)).map (fun (bs : List Bool) => Dat.bl (bs.all id)) = _
  simp
theorem ix_seq {h : Hd} {ds : List Dat} {i : Int} (e : seqA rho mu h = some ds) : ixD rho mu h (.int i) = at? ds i := by
  unfold ixD
  rw [e]
@[simp] theorem ix_tup {ds : List Dat} {i : Int} : ixD rho mu (.dat (.tup ds)) (.int i) = at? ds i := (rfl)
@[simp] theorem ix_lst {ds : List Dat} {i : Int} : ixD rho mu (.dat (.lst ds)) (.int i) = at? ds i := (rfl)
theorem place_nat {n i : Nat} (h : i < n) : place n (i : Int) = some i := by
  unfold place
  rw [if_pos (by omega), if_pos (by omega)]
  simp
theorem place_neg {n i : Nat} (h : i < n) : place n (-((i : Int) + 1)) = some (n - (i + 1)) := by
  unfold place
  rw [if_neg (by omega), if_pos (by omega)]
  congr 1
  omega
theorem at_nat {ds : List Dat} {i : Nat} {d : Dat} (h : ds[i]? = some d) : at? ds (i : Int) = some d := by
  have hl := (List.getElem?_eq_some_iff.mp h).1
  unfold at?
  rw [place_nat hl]
  exact h
theorem at_int {ns : List Int} {i : Nat} (h : i < ns.length) : at? (ns.map .int) (i : Int) = some (.int (ns.getD i 0)) := by
  refine at_nat ?_
  rw [List.getElem?_map, List.getElem?_eq_getElem h, List.getD_eq_getElem?_getD, List.getElem?_eq_getElem h]
  rfl
theorem at_z {ds : List Dat} {d : Dat} (h : ds[0]? = some d) : at? ds 0 = some d := at_nat (i := 0) h
@[simp] theorem at_0 (d : Dat) (ds : List Dat) : at? (d :: ds) 0 = some d := at_nat (i := 0) rfl
@[simp] theorem at_1 (d e : Dat) (ds : List Dat) : at? (d :: e :: ds) 1 = some e := at_nat (i := 1) rfl
@[simp] theorem at_2 (d e f : Dat) (ds : List Dat) : at? (d :: e :: f :: ds) 2 = some f := at_nat (i := 2) rfl
theorem at_last {ds : List Dat} {d : Dat} (h : ds.getLast? = some d) : at? ds (-1) = some d := by
  cases ds with
  | nil => cases h
  | cons x r =>
    unfold at?
    rw [show (-1 : Int) = -(((0 : Nat) : Int) + 1) from rfl, place_neg (by simp)]
    rw [List.getLast?_eq_getElem?] at h
    simpa using h
@[simp] theorem slc_tup (ds : List Dat) (l h : Option Int) : slcD rho mu (.dat (.tup ds)) l h = some (.tup (cut ds l h)) := (rfl)
@[simp] theorem slc_lst (ds : List Dat) (l h : Option Int) : slcD rho mu (.dat (.lst ds)) l h = some (.lst (cut ds l h)) := (rfl)
theorem cut_to {α : Type} (xs : List α) (k : Nat) : cut xs none (some (k : Int)) = xs.take k := by
  unfold cut clip
  simp only [List.drop_zero, Nat.sub_zero]
  rw [if_neg (by omega)]
  by_cases h : k ≤ xs.length
  · rw [show min (k : Int).toNat xs.length = k by simp; omega]
  · rw [show min (k : Int).toNat xs.length = xs.length by simp; omega, List.take_length, List.take_of_length_le (by omega)]
theorem cut_from {α : Type} (xs : List α) (k : Nat) : cut xs (some (k : Int)) none = xs.drop k := by
  unfold cut clip
  simp only
  rw [if_neg (by omega)]
  by_cases h : k ≤ xs.length
  · rw [show min (k : Int).toNat xs.length = k by simp; omega, List.take_of_length_le (by simp)]
  · rw [show min (k : Int).toNat xs.length = xs.length by simp; omega, List.drop_of_length_le (Nat.le_refl _), List.drop_of_length_le (by omega)]
    simp
theorem cut_mid {α : Type} (xs : List α) (i j : Nat) (h : i ≤ j) (hj : j ≤ xs.length) : cut xs (some (i : Int)) (some (j : Int)) = (xs.drop i).take (j - i) := by
  unfold cut clip
  simp only
  rw [if_neg (by omega), if_neg (by omega), show min (i : Int).toNat xs.length = i by simp; omega, show min (j : Int).toNat xs.length = j by simp; omega]
theorem rangeD_eq (n : Nat) : rangeD 0 n = (List.range n).map fun i => .int ((i : Nat) : Int) := by
  unfold rangeD
  congr 1
  funext i
  rw [Int.zero_add]

/-! ### commands -/
variable {D : DE}
@[simp] theorem wp_nil : wpS G .nil D rho mu = D.nx rho mu := (rfl)
@[simp] theorem wp_seq (a b : Cm) : wpS G (.seq a b) D rho mu = wpS G a { nx := wpS G b D, rt := D.rt, bk := D.bk, ct := D.ct } rho mu := (rfl)
@[simp] theorem wp_frz (i : Nat) : wpS G (.frz i) D rho mu = ∃ ds, rho[i]? = some (some (.own (.lst ds))) ∧ D.nx (rho.set i (some (.dat (.lst ds)))) mu := (rfl)
@[simp] theorem wp_asg (i : Nat) (p : P) : wpS G (.asg i p) D rho mu = wO (evP G p rho mu) fun s mu1 => D.nx (rho.set i (some s)) mu1 := (rfl)
@[simp] theorem wp_par2 (i j : Nat) (p q : P) : wpS G (.par2 i j p q) D rho mu = wO (evP G p rho mu) fun s mu1 => wO (evP G q rho mu1) fun s2 mu2 => D.nx ((rho.set i (some s)).set j (some s2)) mu2 := (rfl)
@[simp] theorem wp_par3 (i j l : Nat) (p q r : P) : wpS G (.par3 i j l p q r) D rho mu = wO (evP G p rho mu) fun s mu1 => wO (evP G q rho mu1) fun s2 mu2 => wO (evP G r rho mu2) fun s3 mu3 => D.nx (((rho.set i (some s)).set j (some s2)).set l (some s3)) mu3 := (rfl)
@[simp] theorem wp_asgT (tg : T) (e : E) : wpS G (.asgT tg e) D rho mu = wD (ev G e rho mu) fun d mu1 => ∃ rho1, bindT tg d rho = some rho1 ∧ D.nx rho1 mu1 := (rfl)
@[simp] theorem wp_setIx (i : Nat) (k e : E) : wpS G (.setIx i k e) D rho mu = wD (ev G e rho mu) fun d mu1 => wD (ev G k rho mu1) fun kd mu2 => ∃ c c', cellAt rho mu2 i = some c ∧ putIx c kd d = some c' ∧ D.nx (putCell rho mu2 i c').1 (putCell rho mu2 i c').2 := (rfl)
@[simp] theorem wp_app (i : Nat) (e : E) : wpS G (.app i e) D rho mu = ((∃ ds, cellAt rho mu i = some (.lst ds)) ∧ wD (ev G e rho mu) fun d mu1 => ∃ ds, cellAt rho mu1 i = some (.lst ds) ∧ ds.length < cap ∧ D.nx (putCell rho mu1 i (.lst (ds ++ [d]))).1 (putCell rho mu1 i (.lst (ds ++ [d]))).2) := (rfl)
@[simp] theorem wp_setF (i : Nat) (e : E) : wpS G (.setF i e) D rho mu = wD (ev G e rho mu) fun d mu1 => ∃ (ds : List Dat) (n : Nat) (f : Option Nat), d = .lst ds ∧ rho[i]? = some (some (.dat (.ref n))) ∧ mu1[n]? = some (.ins f) ∧ G.ed = true ∧ D.nx rho ((mu1 ++ [Cell.lst ds]).set n (Cell.ins (some mu1.length))) := (rfl)
@[simp] theorem wp_appF (i : Nat) (e : E) : wpS G (.appF i e) D rho mu = ∃ n m, rho[i]? = some (some (.dat (.ref n))) ∧ mu[n]? = some (.ins (some m)) ∧ G.ed = true ∧ (∃ ds, mu[m]? = some (.lst ds)) ∧ wD (ev G e rho mu) fun d mu1 => ∃ ds, mu1[m]? = some (.lst ds) ∧ ds.length < cap ∧ D.nx rho (mu1.set m (.lst (ds ++ [d]))) := (rfl)
@[simp] theorem xv_fld (a : E) : ev G (.fld a) rho mu = bdD (ev G a rho mu) fun d mu1 => dn (fldD G mu1 d) mu1 := (rfl)
@[simp] theorem xv_meth (o as : E) (m : Nat) : ev G (.meth o m as) rho mu = bdD (ev G o rho mu) fun d mu1 => if insB mu1 d = true then bd (evA G as rho mu1) fun ds mu2 => methD G m (d :: ds) mu2 else none := (rfl)
@[simp] theorem xv_new (as : E) : ev G (.new as) rho mu = bd (evA G as rho mu) fun ds mu1 => newD G ds mu1 := (rfl)
@[simp] theorem wp_ex (e : E) : wpS G (.ex e) D rho mu = wD (ev G e rho mu) fun _ mu1 => D.nx rho mu1 := (rfl)
@[simp] theorem wp_ite (t : E) (a b : Cm) : wpS G (.ite t a b) D rho mu = wB (ev G t rho mu) fun c mu1 => if c = true then wpS G a D rho mu1 else wpS G b D rho mu1 := (rfl)
theorem wp_whl {t : E} {b : Cm} (I : Nat → Env → Store → Prop) (h0 : ∃ m, I m rho mu) (h : ∀ m rho mu, I m rho mu → wB (ev G t rho mu) fun c mu1 =>
      if c = true then wpS G b { nx := fun r u => ∃ m', m' < m ∧ I m' r u, rt := D.rt, ct := fun r u => ∃ m', m' < m ∧ I m' r u, bk := D.nx } rho mu1 else D.nx rho mu1) : wpS G (.whl t b) D rho mu := ⟨I, h0, h⟩
@[simp] theorem wp_loop (tg : T) (it : E) (b : Cm) : wpS G (.loop tg it b) D rho mu = wO (evI G it rho mu) fun xs mu1 => wFor tg (fun D' => wpS G b D') D xs rho mu1 := (rfl)
@[simp] theorem wp_ret (e : E) : wpS G (.ret e) D rho mu = wD (ev G e rho mu) D.rt := (rfl)
@[simp] theorem wp_retC (e : E) : wpS G (.retC e) D rho mu = (isFr e = true ∧ wD (ev G e rho mu) fun d mu1 => ∃ ds, d = .lst ds ∧ D.rt (.ref mu1.length) (mu1 ++ [.lst ds])) := (rfl)
@[simp] theorem wp_retO (i : Nat) : wpS G (.retO i) D rho mu = ∃ c, rho[i]? = some (some (.own c)) ∧ D.rt (.ref mu.length) (mu ++ [c]) := (rfl)
@[simp] theorem wp_retN : wpS G .retN D rho mu = D.rt .non mu := (rfl)
@[simp] theorem wp_brk : wpS G .brk D rho mu = D.bk rho mu := (rfl)
@[simp] theorem wp_cont : wpS G .cont D rho mu = D.ct rho mu := (rfl)
@[simp] theorem wp_pass : wpS G .pass D rho mu = D.nx rho mu := (rfl)
@[simp] theorem wp_never : wpS G .never D rho mu = False := (rfl)
@[simp] theorem evP_dat' (e : E) : evP G (.dat e) rho mu = bdD (ev G e rho mu) fun d mu1 => some (.dat d, mu1) := (rfl)
def lstS : Dat → Option Slot
  | .lst ds => some (.own (.lst ds))
  | _ => none
@[simp] theorem lstS_lst (ds : List Dat) : lstS (.lst ds) = some (.own (.lst ds)) := (rfl)
@[simp] theorem evP_lst' (e : E) : evP G (.lst e) rho mu = bdD (ev G e rho mu) fun d mu1 => (lstS d).map fun s => (s, mu1) := by
  show bdD (ev G e rho mu) _ = bdD (ev G e rho mu) _
  congr 1
  funext d mu1
  cases d <;> rfl
@[simp] theorem evP_dic' (t : Bool) : evP G (.dic t) rho mu = some (.own (.dic t []), mu) := (rfl)
@[simp] theorem wFor_nil (tg : T) (wb : DE → Env → Store → Prop) : wFor tg wb D [] rho mu = D.nx rho mu := (rfl)
@[simp] theorem wFor_cons (tg : T) (wb : DE → Env → Store → Prop) (x : Dat) (xs : List Dat) : wFor tg wb D (x :: xs) rho mu = ∃ rho1, bindT tg x rho = some rho1 ∧ wb { nx := wFor tg wb D xs, rt := D.rt, ct := wFor tg wb D xs, bk := D.nx } rho1 mu := (rfl)
@[simp] theorem bindT_nm (i : Nat) (d : Dat) : bindT (.nm i) d rho = some (rho.set i (some (.dat d))) := (rfl)
@[simp] theorem bindT_tup (a : T) (ds : List Dat) : bindT (.tup a) (.tup ds) rho = bindTs a ds rho := (rfl)
@[simp] theorem bindTs_nil : bindTs .nil [] rho = some rho := (rfl)
@[simp] theorem bindTs_cons (a r : T) (d : Dat) (ds : List Dat) : bindTs (.cons a r) (d :: ds) rho = (bindT a d rho).bind fun rho' => bindTs r ds rho' := by
  show (match bindT a d rho with | some rho' => bindTs r ds rho' | none => none) = _
  cases bindT a d rho <;> rfl
theorem cellAt_own {i : Nat} {c : Cell} (h : rho[i]? = some (some (.own c))) : cellAt rho mu i = some c := by
  unfold cellAt
  rw [h]
theorem cellAt_ref {i n : Nat} (h : rho[i]? = some (some (.dat (.ref n)))) : cellAt rho mu i = mu[n]? := by
  unfold cellAt
  rw [h]
theorem putCell_own {i : Nat} {c c' : Cell} (h : rho[i]? = some (some (.own c))) : putCell rho mu i c' = (rho.set i (some (.own c')), mu) := by
  unfold putCell
  rw [h]
theorem putCell_ref {i n : Nat} {c' : Cell} (h : rho[i]? = some (some (.dat (.ref n)))) : putCell rho mu i c' = (rho, mu.set n c') := by
  unfold putCell
  rw [h]
@[simp] theorem putIx_lst (ds : List Dat) (k : Int) (d : Dat) : putIx (.lst ds) (.int k) d = (place ds.length k).map fun j => .lst (ds.set j d) := (rfl)
theorem cap_val : cap = 1000000 := (rfl)
end
/-- a loop by an invariant on what is left -/
theorem wFor_inv {tg : T} {wb : DE → Env → Store → Prop} {D : DE} (I : List Dat → Env → Store → Prop) (h : ∀ x xs rho mu, I (x :: xs) rho mu → ∃ rho1, bindT tg x rho = some rho1 ∧ ∀ D', D'.nx = wFor tg wb D xs → D'.rt = D.rt → D'.ct = wFor tg wb D xs → D'.bk = D.nx → (∀ r m, I xs r m → wFor tg wb D xs r m) → wb D' rho1 mu)
    (he : ∀ rho mu, I [] rho mu → D.nx rho mu) : ∀ xs rho mu, I xs rho mu → wFor tg wb D xs rho mu
  | [], rho, mu, i => he rho mu i
  | x :: xs, rho, mu, i => by
    obtain ⟨rho1, h1, h2⟩ := h x xs rho mu i
    exact ⟨rho1, h1, h2 _ rfl rfl rfl rfl fun r m i' => wFor_inv I h he xs r m i'⟩
end Lin

set_option maxHeartbeats 1000000
/-! Lin, part W: a command that reaches its ends reaches one of them; defs by their bodies. -/
namespace Lin
open PySem PySem.Spec

inductive Out where
  | nx (r : Env) (u : Store) | rt (d : Dat) (u : Store) | bk (r : Env) (u : Store) | ct (r : Env) (u : Store)
def DE.at (D : DE) : Out → Prop
  | .nx r u => D.nx r u
  | .rt d u => D.rt d u
  | .bk r u => D.bk r u
  | .ct r u => D.ct r u
/-- it ends at o -/
def Ends1 (G : Gam) (c : Cm) (rho : Env) (mu : Store) (o : Out) : Prop := ∀ D, D.at o → wpS G c D rho mu
/-- a while loop's way to o -/
inductive Lead (G : Gam) (t : E) (b : Cm) (o : Out) : Nat → Env → Store → Prop
  | stop {m : Nat} {rho : Env} {mu mu1 : Store} : ev G t rho mu = some (.dat (.bl false), mu1) → o = .nx rho mu1 → Lead G t b o m rho mu
  | ret {m : Nat} {rho : Env} {mu mu1 : Store} {d : Dat} {u : Store} : ev G t rho mu = some (.dat (.bl true), mu1) → Ends1 G b rho mu1 (.rt d u) → o = .rt d u → Lead G t b o m rho mu
  | brk {m : Nat} {rho : Env} {mu mu1 : Store} {r : Env} {u : Store} : ev G t rho mu = some (.dat (.bl true), mu1) → Ends1 G b rho mu1 (.bk r u) → o = .nx r u → Lead G t b o m rho mu
  | nx {m m' : Nat} {rho : Env} {mu mu1 : Store} {r : Env} {u : Store} : ev G t rho mu = some (.dat (.bl true), mu1) → Ends1 G b rho mu1 (.nx r u) → m' < m → Lead G t b o m' r u → Lead G t b o m rho mu
  | ct {m m' : Nat} {rho : Env} {mu mu1 : Store} {r : Env} {u : Store} : ev G t rho mu = some (.dat (.bl true), mu1) → Ends1 G b rho mu1 (.ct r u) → m' < m → Lead G t b o m' r u → Lead G t b o m rho mu
theorem lead_wp {G : Gam} {t : E} {b : Cm} {o : Out} {m : Nat} {rho : Env} {mu : Store} (h : Lead G t b o m rho mu) : Ends1 G (.whl t b) rho mu o := fun D hD => by
  refine wp_whl (Lead G t b o) ⟨m, h⟩ fun m rho mu h => ?_
  cases h with
  | stop e1 e2 =>
    subst e2
    exact ⟨_, _, e1, hD⟩
  | ret e1 e2 e3 =>
    subst e3
    exact ⟨_, _, e1, e2 _ hD⟩
  | brk e1 e2 e3 =>
    subst e3
    exact ⟨_, _, e1, e2 _ hD⟩
  | nx e1 e2 e3 e4 => exact ⟨_, _, e1, e2 _ ⟨_, e3, e4⟩⟩
  | ct e1 e2 e3 e4 => exact ⟨_, _, e1, e2 _ ⟨_, e3, e4⟩⟩
theorem for_out {G : Gam} {tg : T} {b : Cm} (ih : ∀ D rho mu, wpS G b D rho mu → ∃ o, D.at o ∧ Ends1 G b rho mu o) (D : DE) : ∀ xs rho mu, wFor tg (fun D' => wpS G b D') D xs rho mu →
    ∃ o, D.at o ∧ ∀ D', D'.at o → wFor tg (fun D' => wpS G b D') D' xs rho mu
  | [], rho, mu, h => ⟨.nx rho mu, h, fun D' h' => h'⟩
  | x :: xs, rho, mu, h => by
    obtain ⟨rho1, h1, h2⟩ := h
    obtain ⟨o, h3, h4⟩ := ih _ _ _ h2
    cases o with
    | nx r u =>
      obtain ⟨o2, h5, h6⟩ := for_out ih D xs r u h3
      exact ⟨o2, h5, fun D' h' => ⟨rho1, h1, h4 _ (h6 D' h')⟩⟩
    | ct r u =>
      obtain ⟨o2, h5, h6⟩ := for_out ih D xs r u h3
      exact ⟨o2, h5, fun D' h' => ⟨rho1, h1, h4 _ (h6 D' h')⟩⟩
    | rt d u => exact ⟨.rt d u, h3, fun D' h' => ⟨rho1, h1, h4 _ h'⟩⟩
    | bk r u => exact ⟨.nx r u, h3, fun D' h' => ⟨rho1, h1, h4 _ h'⟩⟩
theorem wp_out (G : Gam) : ∀ c D rho mu, wpS G c D rho mu → ∃ o, D.at o ∧ Ends1 G c rho mu o
  | .nil, D, rho, mu, h => ⟨.nx rho mu, h, fun D' h' => h'⟩
  | .seq a b, D, rho, mu, h => by
    obtain ⟨o, h1, h2⟩ := wp_out G a _ rho mu h
    cases o with
    | nx r u =>
      obtain ⟨o2, h3, h4⟩ := wp_out G b D r u h1
      exact ⟨o2, h3, fun D' h' => h2 _ (h4 D' h')⟩
    | rt d u => exact ⟨.rt d u, h1, fun D' h' => h2 _ h'⟩
    | bk r u => exact ⟨.bk r u, h1, fun D' h' => h2 _ h'⟩
    | ct r u => exact ⟨.ct r u, h1, fun D' h' => h2 _ h'⟩
  | .frz i, D, rho, mu, ⟨ds, h1, h2⟩ => ⟨.nx _ _, h2, fun D' h' => ⟨ds, h1, h'⟩⟩
  | .asg i p, D, rho, mu, ⟨s, u, h1, h2⟩ => ⟨.nx _ _, h2, fun D' h' => ⟨s, u, h1, h'⟩⟩
  | .par2 i j p q, D, rho, mu, ⟨s, u, h1, s2, u2, h2, h3⟩ => ⟨.nx _ _, h3, fun D' h' => ⟨s, u, h1, s2, u2, h2, h'⟩⟩
  | .par3 i j l p q r, D, rho, mu, ⟨s, u, h1, s2, u2, h2, s3, u3, h3, h4⟩ => ⟨.nx _ _, h4, fun D' h' => ⟨s, u, h1, s2, u2, h2, s3, u3, h3, h'⟩⟩
  | .asgT tg e, D, rho, mu, ⟨d, u, h1, r, h2, h3⟩ => ⟨.nx _ _, h3, fun D' h' => ⟨d, u, h1, r, h2, h'⟩⟩
  | .setIx i k e, D, rho, mu, ⟨d, u, h1, kd, u2, h2, c, c', h3, h4, h5⟩ => ⟨.nx _ _, h5, fun D' h' => ⟨d, u, h1, kd, u2, h2, c, c', h3, h4, h'⟩⟩
  | .app i e, D, rho, mu, ⟨h0, d, u, h1, ds, h2, h3, h4⟩ => ⟨.nx _ _, h4, fun D' h' => ⟨h0, d, u, h1, ds, h2, h3, h'⟩⟩
  | .setF i e, D, rho, mu, ⟨d, u, h1, ds, n, f, h2, h3, h4, h5, h6⟩ => ⟨.nx _ _, h6, fun D' h' => ⟨d, u, h1, ds, n, f, h2, h3, h4, h5, h'⟩⟩
  | .appF i e, D, rho, mu, ⟨n, m, h1, h2, h3, h4, d, u, h5, ds, h6, h7, h8⟩ => ⟨.nx _ _, h8, fun D' h' => ⟨n, m, h1, h2, h3, h4, d, u, h5, ds, h6, h7, h'⟩⟩
  | .ex e, D, rho, mu, ⟨d, u, h1, h2⟩ => ⟨.nx _ _, h2, fun D' h' => ⟨d, u, h1, h'⟩⟩
  | .ite t a b, D, rho, mu, ⟨c, u, h1, h2⟩ => by
    cases c with
    | true =>
      obtain ⟨o, h3, h4⟩ := wp_out G a D rho u h2
      exact ⟨o, h3, fun D' h' => ⟨true, u, h1, h4 D' h'⟩⟩
    | false =>
      obtain ⟨o, h3, h4⟩ := wp_out G b D rho u h2
      exact ⟨o, h3, fun D' h' => ⟨false, u, h1, h4 D' h'⟩⟩
  | .whl t b, D, rho, mu, h => by
    obtain ⟨I, ⟨m, h0⟩, h⟩ := h
    have go : ∀ m rho mu, I m rho mu → ∃ o, D.at o ∧ Lead G t b o m rho mu := by
      intro m
      induction m using Nat.strongRecOn with
      | ind m ih =>
        intro rho mu i
        obtain ⟨c, u, h1, h2⟩ := h m rho mu i
        cases c with
        | false => exact ⟨.nx rho u, h2, .stop h1 rfl⟩
        | true =>
          obtain ⟨o, h3, h4⟩ := wp_out G b _ rho u h2
          cases o with
          | nx r v =>
            obtain ⟨m', hm, i'⟩ := h3
            obtain ⟨o2, h5, h6⟩ := ih m' hm r v i'
            exact ⟨o2, h5, .nx h1 h4 hm h6⟩
          | ct r v =>
            obtain ⟨m', hm, i'⟩ := h3
            obtain ⟨o2, h5, h6⟩ := ih m' hm r v i'
            exact ⟨o2, h5, .ct h1 h4 hm h6⟩
          | rt d v => exact ⟨.rt d v, h3, .ret h1 h4 rfl⟩
          | bk r v => exact ⟨.nx r v, h3, .brk h1 h4 rfl⟩
    obtain ⟨o, h1, h2⟩ := go m rho mu h0
    exact ⟨o, h1, lead_wp h2⟩
  | .loop tg it b, D, rho, mu, ⟨xs, u, h1, h2⟩ => by
    obtain ⟨o, h3, h4⟩ := for_out (fun D rho mu => wp_out G b D rho mu) D xs rho u h2
    exact ⟨o, h3, fun D' h' => ⟨xs, u, h1, h4 D' h'⟩⟩
  | .asgC i e, D, rho, mu, ⟨m0, ds, h1, h2, h3, h4⟩ => ⟨.nx _ _, h4, fun D' h' => ⟨m0, ds, h1, h2, h3, h'⟩⟩
  | .iteL i t a b, D, rho, mu, ⟨ds, h0, c, u, h1, hf, h2⟩ => by
    cases c with
    | true =>
      obtain ⟨o, h3, h4⟩ := wp_out G a D rho u h2
      exact ⟨o, h3, fun D' h' => ⟨ds, h0, true, u, h1, hf, h4 D' h'⟩⟩
    | false =>
      obtain ⟨o, h3, h4⟩ := wp_out G b D rho u h2
      exact ⟨o, h3, fun D' h' => ⟨ds, h0, false, u, h1, hf, h4 D' h'⟩⟩
  | .iteH i e a, D, rho, mu, ⟨d, u, h1, f, clo, b, u2, h2, h3, h4, h5⟩ => by
    cases b with
    | true =>
      obtain ⟨o, h6, h7⟩ := wp_out G a D rho u2 h5
      exact ⟨o, h6, fun D' h' => ⟨d, u, h1, f, clo, true, u2, h2, h3, h4, h7 D' h'⟩⟩
    | false => exact ⟨.nx rho u2, h5, fun D' h' => ⟨d, u, h1, f, clo, false, u2, h2, h3, h4, h'⟩⟩
  | .retL g as js lam ix, D, rho, mu, ⟨ds, u, n, P, q, HF, d, u2, d', h1, h2, h3, h4, h5, h6, h7, h8⟩ => ⟨.rt d' u2, h8, fun D' h' => ⟨ds, u, n, P, q, HF, d, u2, d', h1, h2, h3, h4, h5, h6, h7, h'⟩⟩
  | .ret e, D, rho, mu, ⟨d, u, h1, h2⟩ => ⟨.rt d u, h2, fun D' h' => ⟨d, u, h1, h'⟩⟩
  | .retC e, D, rho, mu, ⟨h0, d, u, h1, ds, h2, h3⟩ => ⟨.rt _ _, h3, fun D' h' => ⟨h0, d, u, h1, ds, h2, h'⟩⟩
  | .retO i, D, rho, mu, ⟨c, h1, h2⟩ => ⟨.rt _ _, h2, fun D' h' => ⟨c, h1, h'⟩⟩
  | .retN, D, rho, mu, h => ⟨.rt _ _, h, fun D' h' => h'⟩
  | .brk, D, rho, mu, h => ⟨.bk _ _, h, fun D' h' => h'⟩
  | .cont, D, rho, mu, h => ⟨.ct _ _, h, fun D' h' => h'⟩
  | .pass, D, rho, mu, h => ⟨.nx _ _, h, fun D' h' => h'⟩
  | .never, D, rho, mu, h => h.elim

/-- what a body does, told by the value and the store that it reaches -/
def Does (G : Gam) (c : Cm) (rho : Env) (mu : Store) (d : Dat) (mu' : Store) : Prop := wpS G c { nx := fun _ u => d = .non ∧ u = mu', rt := fun d' u => d' = d ∧ u = mu' } rho mu
noncomputable def mkB (G : Gam) (c : Cm) (n : Nat) : Fn := fun ds mu =>
  open Classical in if h : ∃ p : Dat × Store, Does G c (startE n ds) mu p.1 p.2 then some (.ok (Classical.choose h).1 (Classical.choose h).2) else none
theorem mkB_good (G : Gam) (c : Cm) (n ar : Nat) : Good G c n ar (mkB G c n) := by
  intro ds mu r _ e
  unfold mkB at e
  split at e
  · rename_i hx
    cases e
    exact ⟨_, _, rfl, Classical.choose_spec hx⟩
  · cases e
theorem for_conj {G : Gam} {tg : T} {b : Cm} (ih : ∀ D1 D2 D rho mu, (∀ o, D1.at o → D2.at o → D.at o) → wpS G b D1 rho mu → wpS G b D2 rho mu → wpS G b D rho mu) {D1 D2 D : DE} (hD : ∀ o, D1.at o → D2.at o → D.at o) :
    ∀ xs rho mu, wFor tg (fun D' => wpS G b D') D1 xs rho mu → wFor tg (fun D' => wpS G b D') D2 xs rho mu → wFor tg (fun D' => wpS G b D') D xs rho mu
  | [], rho, mu, h1, h2 => hD (.nx rho mu) h1 h2
  | x :: xs, rho, mu, ⟨r1, e1, h1⟩, ⟨r2, e2, h2⟩ => by
    cases e1.symm.trans e2
    refine ⟨r1, e1, ih _ _ _ _ _ (fun o => ?_) h1 h2⟩
    cases o with
    | nx r u => exact for_conj ih hD xs r u
    | ct r u => exact for_conj ih hD xs r u
    | rt d u => exact hD (.rt d u)
    | bk r u => exact hD (.nx r u)
theorem ixT_eq {ix : Option Int} {d a b : Dat} (h1 : ixT ix d a) (h2 : ixT ix d b) : a = b := by
  cases ix with
  | none => exact Eq.trans (show a = d from h1) (show b = d from h2).symm
  | some i =>
    obtain ⟨xs, rfl, e1⟩ := h1
    obtain ⟨ys, e, e2⟩ := h2
    cases e
    exact Option.some.inj (e1.symm.trans e2)
/-- both ends are reached together -/
theorem wp_conj (G : Gam) : ∀ c D1 D2 D rho mu, (∀ o, D1.at o → D2.at o → D.at o) → wpS G c D1 rho mu → wpS G c D2 rho mu → wpS G c D rho mu
  | .nil, D1, D2, D, rho, mu, hD, h1, h2 => hD (.nx rho mu) h1 h2
  | .seq a b, D1, D2, D, rho, mu, hD, h1, h2 => by
    refine wp_conj G a _ _ _ rho mu (fun o => ?_) h1 h2
    cases o with
    | nx r u => exact wp_conj G b D1 D2 D r u hD
    | rt d u => exact hD (.rt d u)
    | bk r u => exact hD (.bk r u)
    | ct r u => exact hD (.ct r u)
  | .frz i, D1, D2, D, rho, mu, hD, ⟨ds, e1, h1⟩, ⟨ds', e2, h2⟩ => by
    cases e1.symm.trans e2
    exact ⟨ds, e1, hD (.nx _ _) h1 h2⟩
  | .asg i p, D1, D2, D, rho, mu, hD, ⟨s, u, e1, h1⟩, ⟨s', u', e2, h2⟩ => by
    cases e1.symm.trans e2
    exact ⟨s, u, e1, hD (.nx _ _) h1 h2⟩
  | .par2 i j p q, D1, D2, D, rho, mu, hD, ⟨s, u, e1, s2, u2, e2, h1⟩, ⟨t, v, f1, t2, v2, f2, h2⟩ => by
    cases e1.symm.trans f1
    cases e2.symm.trans f2
    exact ⟨s, u, e1, s2, u2, e2, hD (.nx _ _) h1 h2⟩
  | .par3 i j l p q r, D1, D2, D, rho, mu, hD, ⟨s, u, e1, s2, u2, e2, s3, u3, e3, h1⟩, ⟨t, v, f1, t2, v2, f2, t3, v3, f3, h2⟩ => by
    cases e1.symm.trans f1
    cases e2.symm.trans f2
    cases e3.symm.trans f3
    exact ⟨s, u, e1, s2, u2, e2, s3, u3, e3, hD (.nx _ _) h1 h2⟩
  | .asgT tg e, D1, D2, D, rho, mu, hD, ⟨d, u, e1, r, e2, h1⟩, ⟨d', u', f1, r', f2, h2⟩ => by
    cases e1.symm.trans f1
    cases e2.symm.trans f2
    exact ⟨d, u, e1, r, e2, hD (.nx _ _) h1 h2⟩
  | .setIx i k e, D1, D2, D, rho, mu, hD, ⟨d, u, e1, kd, u2, e2, c, c', e3, e4, h1⟩, ⟨d', u', f1, kd', u2', f2, g, g', f3, f4, h2⟩ => by
    cases e1.symm.trans f1
    cases e2.symm.trans f2
    cases e3.symm.trans f3
    cases e4.symm.trans f4
    exact ⟨d, u, e1, kd, u2, e2, c, c', e3, e4, hD (.nx _ _) h1 h2⟩
  | .app i e, D1, D2, D, rho, mu, hD, ⟨z, d, u, e1, ds, e2, e3, h1⟩, ⟨_, d', u', f1, ds', f2, f3, h2⟩ => by
    cases e1.symm.trans f1
    cases e2.symm.trans f2
    exact ⟨z, d, u, e1, ds, e2, e3, hD (.nx _ _) h1 h2⟩
  | .setF i e, D1, D2, D, rho, mu, hD, ⟨d, u, e1, ds, n, f, e2, e3, e4, e5, h1⟩, ⟨d', u', f1, ds', n', f', f2, f3, f4, f5, h2⟩ => by
    cases e1.symm.trans f1
    subst e2
    cases f2
    cases e3.symm.trans f3
    cases e4.symm.trans f4
    exact ⟨_, u, e1, ds, n, f, rfl, e3, e4, e5, hD (.nx _ _) h1 h2⟩
  | .appF i e, D1, D2, D, rho, mu, hD, ⟨n, m, e1, e2, e3, e4, d, u, e5, ds, e6, e7, h1⟩, ⟨n', m', f1, f2, f3, f4, d', u', f5, ds', f6, f7, h2⟩ => by
    cases e1.symm.trans f1
    cases e2.symm.trans f2
    cases e5.symm.trans f5
    cases e6.symm.trans f6
    exact ⟨n, m, e1, e2, e3, e4, d, u, e5, ds, e6, e7, hD (.nx _ _) h1 h2⟩
  | .ex e, D1, D2, D, rho, mu, hD, ⟨d, u, e1, h1⟩, ⟨d', u', f1, h2⟩ => by
    cases e1.symm.trans f1
    exact ⟨d, u, e1, hD (.nx _ _) h1 h2⟩
  | .ite t a b, D1, D2, D, rho, mu, hD, ⟨c, u, e1, h1⟩, ⟨c', u', f1, h2⟩ => by
    cases e1.symm.trans f1
    refine ⟨c, u, e1, ?_⟩
    cases c with
    | true => exact wp_conj G a D1 D2 D rho u hD h1 h2
    | false => exact wp_conj G b D1 D2 D rho u hD h1 h2
  | .whl t b, D1, D2, D, rho, mu, hD, ⟨I, ⟨m, i0⟩, h1⟩, ⟨J, ⟨n, j0⟩, h2⟩ => by
    refine wp_whl (fun m r u => I m r u ∧ ∃ n, J n r u) ⟨m, i0, n, j0⟩ ?_
    rintro m r u ⟨i, n, j⟩
    obtain ⟨c, v, e1, k1⟩ := h1 m r u i
    obtain ⟨c', v', f1, k2⟩ := h2 n r u j
    cases e1.symm.trans f1
    refine ⟨c, v, e1, ?_⟩
    cases c with
    | false => exact hD (.nx _ _) k1 k2
    | true =>
      refine wp_conj G b _ _ _ r v (fun o => ?_) k1 k2
      cases o with
      | nx r u => exact fun ⟨m', hm, i'⟩ ⟨n', _, j'⟩ => ⟨m', hm, i', n', j'⟩
      | ct r u => exact fun ⟨m', hm, i'⟩ ⟨n', _, j'⟩ => ⟨m', hm, i', n', j'⟩
      | rt d u => exact hD (.rt d u)
      | bk r u => exact hD (.nx r u)
  | .loop tg it b, D1, D2, D, rho, mu, hD, ⟨xs, u, e1, h1⟩, ⟨xs', u', f1, h2⟩ => by
    cases e1.symm.trans f1
    exact ⟨xs, u, e1, for_conj (wp_conj G b) hD xs rho u h1 h2⟩
  | .asgC i e, D1, D2, D, rho, mu, hD, ⟨m0, ds, e1, e2, e3, h1⟩, ⟨m0', ds', f1, f2, f3, h2⟩ => by
    have q := e1.symm.trans f1
    injection q with q
    injection q with q1 q2
    obtain ⟨q3, q4⟩ := List.append_inj' q2 rfl
    subst q3
    injection q4 with q5 _
    injection q5 with q6
    subst q6
    exact ⟨m0, ds, e1, e2, e3, hD (.nx _ _) h1 h2⟩
  | .iteL i t a b, D1, D2, D, rho, mu, hD, ⟨ds, e0, c, u, e1, hf, h1⟩, ⟨ds', f0, c', u', f1, _, h2⟩ => by
    cases e0.symm.trans f0
    cases e1.symm.trans f1
    refine ⟨ds, e0, c, u, e1, hf, ?_⟩
    cases c with
    | true => exact wp_conj G a D1 D2 D rho u hD h1 h2
    | false => exact wp_conj G b D1 D2 D rho u hD h1 h2
  | .iteH i e a, D1, D2, D, rho, mu, hD, ⟨d, u, e1, f, clo, b, u2, e2, e3, e4, h1⟩, ⟨d', u', f1, f', clo', b', u2', f2, f3, f4, h2⟩ => by
    cases e1.symm.trans f1
    cases e2.symm.trans f2
    cases e3.symm.trans f3
    cases e4.symm.trans f4
    refine ⟨d, u, e1, f, clo, b, u2, e2, e3, e4, ?_⟩
    cases b with
    | true => exact wp_conj G a D1 D2 D rho u2 hD h1 h2
    | false => exact hD (.nx _ _) h1 h2
  | .retL g as js lam ix, D1, D2, D, rho, mu, hD, ⟨ds, u, n, P, q, HF, d, u2, d', e1, e2, e3, e4, e5, e6, e7, h1⟩, ⟨ds', u', n', P', q', HF', dd, u2', dd', f1, f2, f3, f4, f5, f6, f7, h2⟩ => by
    cases e1.symm.trans f1
    cases e2.symm.trans f2
    cases e4.symm.trans f4
    cases (e6 (show Addr from (0 : Nat))).symm.trans (f6 (show Addr from (0 : Nat)))
    cases ixT_eq e7 f7
    exact ⟨ds, u, n, P, q, HF, d, u2, d', e1, e2, e3, e4, e5, e6, e7, hD (.rt _ _) h1 h2⟩
  | .ret e, D1, D2, D, rho, mu, hD, ⟨d, u, e1, h1⟩, ⟨d', u', f1, h2⟩ => by
    cases e1.symm.trans f1
    exact ⟨d, u, e1, hD (.rt _ _) h1 h2⟩
  | .retC e, D1, D2, D, rho, mu, hD, ⟨z, d, u, e1, ds, e2, h1⟩, ⟨_, d', u', f1, ds', f2, h2⟩ => by
    cases e1.symm.trans f1
    cases e2.symm.trans f2
    exact ⟨z, d, u, e1, ds, e2, hD (.rt _ _) h1 h2⟩
  | .retO i, D1, D2, D, rho, mu, hD, ⟨c, e1, h1⟩, ⟨c', f1, h2⟩ => by
    cases e1.symm.trans f1
    exact ⟨c, e1, hD (.rt _ _) h1 h2⟩
  | .retN, D1, D2, D, rho, mu, hD, h1, h2 => hD (.rt _ _) h1 h2
  | .brk, D1, D2, D, rho, mu, hD, h1, h2 => hD (.bk _ _) h1 h2
  | .cont, D1, D2, D, rho, mu, hD, h1, h2 => hD (.ct _ _) h1 h2
  | .pass, D1, D2, D, rho, mu, hD, h1, h2 => hD (.nx _ _) h1 h2
  | .never, D1, D2, D, rho, mu, hD, h1, h2 => h1.elim
/-- a weaker end -/
theorem wp_mono (G : Gam) {c : Cm} {D D' : DE} {rho : Env} {mu : Store} (h : wpS G c D rho mu) (hD : ∀ o, D.at o → D'.at o) : wpS G c D' rho mu := wp_conj G c D D D' rho mu (fun o h _ => hD o h) h h
/-- what the body is shown to do is what the def does -/
theorem mkB_at {G : Gam} {c : Cm} {n : Nat} {ds : List Dat} {mu : Store} {Post : Dat → Store → Prop} (h : wpS G c { nx := fun _ u => Post .non u, rt := Post } (startE n ds) mu) : ∃ d mu', mkB G c n ds mu = some (.ok d mu') ∧ Post d mu' := by
  have hx : ∃ p : Dat × Store, Does G c (startE n ds) mu p.1 p.2 := by
    obtain ⟨o, h1, h2⟩ := wp_out G c _ _ _ h
    cases o with
    | nx r u => exact ⟨(.non, u), h2 _ ⟨rfl, rfl⟩⟩
    | rt d u => exact ⟨(d, u), h2 _ ⟨rfl, rfl⟩⟩
    | bk r u => exact h1.elim
    | ct r u => exact h1.elim
  refine ⟨(Classical.choose hx).1, (Classical.choose hx).2, ?_, ?_⟩
  · unfold mkB
    rw [dif_pos hx]
  · have hs := Classical.choose_spec hx
    generalize Classical.choose hx = p at hs
    have h3 := wp_conj G c _ _ { nx := fun _ _ => Post p.1 p.2, rt := fun _ _ => Post p.1 p.2 } (startE n ds) mu (fun o => ?_) h hs
    · obtain ⟨o, h1, _⟩ := wp_out G c _ _ _ h3
      cases o with
      | nx r u => exact h1
      | rt d u => exact h1
      | bk r u => exact h1.elim
      | ct r u => exact h1.elim
    · cases o with
      | nx r u => rintro h1 ⟨h2, h3⟩; subst h3; rw [h2]; exact h1
      | rt d u => rintro h1 ⟨h2, h3⟩; subst h2 h3; exact h1
      | bk r u => exact fun z _ => z.elim
      | ct r u => exact fun z _ => z.elim
end Lin

/-! The defs as terms (printed by gen.py). -/
namespace Lin
open PySem PySem.Spec
def fnName : Nat → Str
  | 0 => "is_integer"
  | 1 => "in_range"
  | 2 => "is_words"
  | 3 => "check_words"
  | 4 => "is_width"
  | 5 => "check_text"
  | 6 => "check_index"
  | 7 => "check_count"
  | 8 => "line_width"
  | 9 => "next_index"
  | 10 => "starts_of"
  | 11 => "line_starts"
  | 12 => "line_count"
  | 13 => "starts_from"
  | 14 => "fits"
  | 15 => "is_layout_of"
  | 16 => "is_layout"
  | 17 => "separation"
  | 18 => "is_separation"
  | 19 => "check_lines"
  | 20 => "ways_table"
  | 21 => "layout_count"
  | 22 => "start_ranges"
  | 23 => "layout_at"
  | 24 => "layout_number"
  | 25 => "count_at"
  | 26 => "narrowest"
  | 27 => "least_width"
  | 28 => "width_steps"
  | 29 => "widths_of_count"
  | 30 => "widths_of_starts"
  | 31 => "are_starts"
  | 32 => "with_length"
  | 33 => "lengths_that"
  | 34 => "longest_length"
  | 35 => "free_places"
  | 36 => "meeting_of"
  | 37 => "meeting"
  | 38 => "is_edit"
  | 39 => "edited"
  | 40 => "apply_edit"
  | 41 => "changed_of"
  | 42 => "changed_lines"
  | 43 => "check_ring"
  | 44 => "jump"
  | 45 => "lines_to"
  | 46 => "repeated_count"
  | 47 => "mean_lines"
  | 48 => "ring_lines"
  | 49 => "ring_count"
  | 50 => "best_starts"
  | 51 => "_law_well"
  | 52 => "_law_take"
  | 53 => "_law_bags"
  | 54 => "_law_same"
  | 55 => "_law_in"
  | 56 => "_law_error"
  | 57 => "_law_outcome"
  | 58 => "_law_all_raise"
  | 59 => "_law_words"
  | 60 => "_law_changed"
  | 61 => "_law_valid"
  | 62 => "_law_calls"
  | 63 => "_law_width_calls"
  | 64 => "law"
  | 65 => "check_hidden"
  | 66 => "lengths_of_starts"
  | 67 => "lengths_of_count"
  | 68 => "_law_width"
  | 69 => "_law_numbers_right"
  | 70 => "_law_starts_right"
  | 71 => "_law_rest_right"
  | 72 => "_law_fit"
  | 73 => "_law_end"
  | 74 => "_law_greedy"
  | 75 => "_law_fits_all"
  | 76 => "_law_layouts"
  | 77 => "_law_alternate"
  | 78 => "_law_lines"
  | 79 => "_law_due"
  | 80 => "_law_ranges"
  | 81 => "_law_ways"
  | 82 => "_law_limits"
  | 83 => "_law_far"
  | 84 => "_law_around"
  | 85 => "_law_counts"
  | 86 => "_law_range"
  | 87 => "_law_turned_right"
  | 88 => "_law_do"
  | 89 => "_law_good_edit"
  | 90 => "_law_action"
  | 91 => "_law_right"
  | 92 => "_wall"
  | 93 => "_law_edit"
  | 94 => "_law_step_right"
  | 95 => "_law_examples_right"
  | 96 => "_law_equal_words_right"
  | 97 => "free_places"
  | _ => ""
def gcName : Nat → Str
  | 0 => "MAX_WORDS"
  | 1 => "MAX_LENGTH"
  | 2 => "MAX_WIDTH"
  | 3 => "MAX_REPETITIONS"
  | 4 => "MAX_EDITS"
  | _ => ""
def nmG : Nms := ⟨fnName, gcName, fun _ => ""⟩
/-- is_integer (def 0) -/
def N_is_integer : List Str := ["value"]
def P_is_integer : List Str := ["value"]
def c_is_integer : Cm :=
  (.seq (.ret (.and (.acons (.isi (.var 0) .int) (.acons (.not (.isi (.var 0) .bool)) .anil))))
  .nil)
/-- in_range (def 1) -/
def N_in_range : List Str := ["value", "low", "high"]
def P_in_range : List Str := ["value", "low", "high"]
def c_in_range : Cm :=
  (.seq (.ret (.and (.acons (.call 0 (.acons (.var 0) .anil)) (.acons (.chain .le .le (.var 1) (.var 0) (.var 2)) .anil))))
  .nil)
/-- is_words (def 2) -/
def N_is_words : List Str := ["value", "length"]
def P_is_words : List Str := ["value"]
def c_is_words : Cm :=
  (.seq (.ite (.or (.acons (.not (.isi (.var 0) .tuple)) (.acons (.cmp .gt (.blt .len (.acons (.var 0) .anil)) (.glob 0)) .anil)))
  (.seq (.ret (.bl false))
  .nil)
  .nil)
  (.seq (.ret (.blt .all (.acons (.lc [("length", 1)] (.nm 1) (.items (.var 0)) .anil (.call 1 (.acons (.var 1) (.acons (.int 1) (.acons (.glob 1) .anil))))) .anil)))
  .nil))
/-- check_words (def 3) -/
def N_check_words : List Str := ["words"]
def P_check_words : List Str := ["words"]
def c_check_words : Cm :=
  (.seq (.ite (.not (.call 2 (.acons (.var 0) .anil)))
  (.seq .never
  .nil)
  .nil)
  .nil)
/-- is_width (def 4) -/
def N_is_width : List Str := ["words", "value"]
def P_is_width : List Str := ["words", "value"]
def c_is_width : Cm :=
  (.seq (.ret (.call 1 (.acons (.var 1) (.acons (.blt .max (.acons (.op .add (.tup (.acons (.int 1) .anil)) (.var 0)) .anil)) (.acons (.glob 2) .anil)))))
  .nil)
/-- check_text (def 5) -/
def N_check_text : List Str := ["words", "width"]
def P_check_text : List Str := ["words", "width"]
def c_check_text : Cm :=
  (.seq (.ex (.call 3 (.acons (.var 0) .anil)))
  (.seq (.ite (.not (.call 4 (.acons (.var 0) (.acons (.var 1) .anil))))
  (.seq .never
  .nil)
  .nil)
  .nil))
/-- check_index (def 6) -/
def N_check_index : List Str := ["words", "index"]
def P_check_index : List Str := ["words", "index"]
def c_check_index : Cm :=
  (.seq (.ite (.not (.call 1 (.acons (.var 1) (.acons (.int 0) (.acons (.op .sub (.blt .len (.acons (.var 0) .anil)) (.int 1)) .anil)))))
  (.seq .never
  .nil)
  .nil)
  .nil)
/-- check_count (def 7) -/
def N_check_count : List Str := ["value", "low", "high"]
def P_check_count : List Str := ["value", "low", "high"]
def c_check_count : Cm :=
  (.seq (.ite (.not (.call 1 (.acons (.var 0) (.acons (.var 1) (.acons (.var 2) .anil)))))
  (.seq .never
  .nil)
  .nil)
  .nil)
/-- next_index (def 9) -/
def N_next_index : List Str := ["words", "width", "index", "used"]
def P_next_index : List Str := ["words", "width", "index"]
def c_next_index : Cm :=
  (.seq (.asg 3 (.dat (.ix (.var 0) (.var 2))))
  (.seq (.asg 2 (.dat (.op .add (.var 2) (.int 1))))
  (.seq (.whl (.and (.acons (.cmp .lt (.var 2) (.blt .len (.acons (.var 0) .anil))) (.acons (.cmp .le (.op .add (.op .add (.var 3) (.int 1)) (.ix (.var 0) (.var 2))) (.var 1)) .anil)))
  (.seq (.asg 3 (.dat (.op .add (.op .add (.var 3) (.int 1)) (.ix (.var 0) (.var 2)))))
  (.seq (.asg 2 (.dat (.op .add (.var 2) (.int 1))))
  .nil)))
  (.seq (.ret (.var 2))
  .nil))))
/-- starts_of (def 10) -/
def N_starts_of : List Str := ["words", "width", "index", "starts"]
def P_starts_of : List Str := ["words", "width", "index"]
def c_starts_of : Cm :=
  (.seq (.asg 3 (.lst (.lst .anil)))
  (.seq (.whl (.cmp .lt (.var 2) (.blt .len (.acons (.var 0) .anil)))
  (.seq (.app 3 (.var 2))
  (.seq (.asg 2 (.dat (.call 9 (.acons (.var 0) (.acons (.var 1) (.acons (.var 2) .anil))))))
  .nil)))
  (.seq (.ret (.blt .tuple (.acons (.var 3) .anil)))
  .nil)))
/-- line_starts (def 11) -/
def N_line_starts : List Str := ["words", "width"]
def P_line_starts : List Str := ["words", "width"]
def c_line_starts : Cm :=
  (.seq (.ex (.call 5 (.acons (.var 0) (.acons (.var 1) .anil))))
  (.seq (.ret (.call 10 (.acons (.var 0) (.acons (.var 1) (.acons (.int 0) .anil)))))
  .nil))
/-- starts_from (def 13) -/
def N_starts_from : List Str := ["words", "width", "index"]
def P_starts_from : List Str := ["words", "width", "index"]
def c_starts_from : Cm :=
  (.seq (.ex (.call 5 (.acons (.var 0) (.acons (.var 1) .anil))))
  (.seq (.ex (.call 6 (.acons (.var 0) (.acons (.var 2) .anil))))
  (.seq (.ret (.call 10 (.acons (.var 0) (.acons (.var 1) (.acons (.var 2) .anil)))))
  .nil)))
/-- with_length (def 32) -/
def N_with_length : List Str := ["words", "index", "length"]
def P_with_length : List Str := ["words", "index", "length"]
def c_with_length : Cm :=
  (.seq (.ret (.op .add (.op .add (.slc (.var 0) .anil (.acons (.var 1) .anil)) (.tup (.acons (.var 2) .anil))) (.slc (.var 0) (.acons (.op .add (.var 1) (.int 1)) .anil) .anil)))
  .nil)
/-- lengths_that (def 33) -/
def N_lengths_that : List Str := ["words", "index", "width", "good", "found", "length"]
def P_lengths_that : List Str := ["words", "index", "width", "good"]
def c_lengths_that : Cm :=
  (.seq (.asg 4 (.lst (.lst .anil)))
  (.seq (.loop (.nm 5) (.range2 (.int 1) (.op .add (.blt .min (.acons (.glob 1) (.acons (.var 2) .anil))) (.int 1)))
  (.seq (.iteH 3 (.call 10 (.acons (.call 32 (.acons (.var 0) (.acons (.var 1) (.acons (.var 5) .anil)))) (.acons (.var 2) (.acons (.int 0) .anil))))
  (.seq (.app 4 (.var 5))
  .nil))
  .nil))
  (.seq (.ret (.ite (.cmp .ne (.var 4) (.lst .anil)) (.tup (.acons (.ix (.var 4) (.int 0)) (.acons (.ix (.var 4) (.neg (.int 1))) .anil))) .non))
  .nil)))
/-- longest_length (def 34) -/
def N_longest_length : List Str := ["words", "width", "index", "lines"]
def P_longest_length : List Str := ["words", "width", "index"]
def c_longest_length : Cm :=
  (.seq (.ex (.call 5 (.acons (.var 0) (.acons (.var 1) .anil))))
  (.seq (.ite (.not (.call 1 (.acons (.var 2) (.acons (.int 0) (.acons (.op .sub (.blt .len (.acons (.var 0) .anil)) (.int 1)) .anil)))))
  (.seq .never
  .nil)
  .nil)
  (.seq (.asg 3 (.dat (.blt .len (.acons (.call 10 (.acons (.var 0) (.acons (.var 1) (.acons (.int 0) .anil)))) .anil))))
  (.seq (.retL 33 (.acons (.var 0) (.acons (.var 2) (.acons (.var 1) .anil))) [3] (.cmp .eq (.blt .len (.acons (.var 0) .anil)) (.var 1)) (some 1))
  .nil))))
/-- free_places (def 35) -/
def N_free_places : List Str := ["words", "width", "length", "lines", "places", "place"]
def P_free_places : List Str := ["words", "width", "length"]
def c_free_places : Cm :=
  (.seq (.ex (.call 5 (.acons (.var 0) (.acons (.var 1) .anil))))
  (.seq (.ite (.or (.acons (.not (.call 1 (.acons (.var 2) (.acons (.int 1) (.acons (.blt .min (.acons (.glob 1) (.acons (.var 1) .anil))) .anil))))) (.acons (.cmp .eq (.blt .len (.acons (.var 0) .anil)) (.glob 0)) .anil)))
  (.seq .never
  .nil)
  .nil)
  (.seq (.asg 3 (.dat (.blt .len (.acons (.call 10 (.acons (.var 0) (.acons (.var 1) (.acons (.int 0) .anil)))) .anil))))
  (.seq (.asg 4 (.lst (.lst .anil)))
  (.seq (.loop (.nm 5) (.range1 (.op .add (.blt .len (.acons (.var 0) .anil)) (.int 1)))
  (.seq (.ite (.cmp .eq (.blt .len (.acons (.call 10 (.acons (.op .add (.op .add (.slc (.var 0) .anil (.acons (.var 5) .anil)) (.tup (.acons (.var 2) .anil))) (.slc (.var 0) (.acons (.var 5) .anil) .anil)) (.acons (.var 1) (.acons (.int 0) .anil)))) .anil)) (.var 3))
  (.seq (.app 4 (.var 5))
  .nil)
  .nil)
  .nil))
  (.seq (.frz 4)
  (.seq (.ret (.var 4))
  .nil)))))))
/-- meeting_of (def 36) -/
def N_meeting_of : List Str := ["words", "width", "first", "second"]
def P_meeting_of : List Str := ["words", "width", "first", "second"]
def c_meeting_of : Cm :=
  (.seq (.whl (.cmp .ne (.var 2) (.var 3))
  (.seq (.par2 2 3 (.dat (.blt .min (.acons (.var 2) (.acons (.var 3) .anil)))) (.dat (.blt .max (.acons (.var 2) (.acons (.var 3) .anil)))))
  (.seq (.asg 2 (.dat (.call 9 (.acons (.var 0) (.acons (.var 1) (.acons (.var 2) .anil))))))
  .nil)))
  (.seq (.ret (.ite (.cmp .lt (.var 2) (.blt .len (.acons (.var 0) .anil))) (.var 2) .non))
  .nil))
/-- meeting (def 37) -/
def N_meeting : List Str := ["words", "width", "first", "second"]
def P_meeting : List Str := ["words", "width", "first", "second"]
def c_meeting : Cm :=
  (.seq (.ex (.call 5 (.acons (.var 0) (.acons (.var 1) .anil))))
  (.seq (.ex (.call 6 (.acons (.var 0) (.acons (.var 2) .anil))))
  (.seq (.ex (.call 6 (.acons (.var 0) (.acons (.var 3) .anil))))
  (.seq (.ret (.call 36 (.acons (.var 0) (.acons (.var 1) (.acons (.var 2) (.acons (.var 3) .anil))))))
  .nil))))
/-- _law_well (def 51) -/
def N_law_well : List Str := ["_law_cell", "_law_turn"]
def P_law_well : List Str := ["_law_cell", "_law_turn"]
def c_law_well : Cm :=
  (.seq (.ite (.cmp .ge (.var 0) (.op .pow (.int 10) (.int 18)))
  (.seq (.retC (.lst (.acons (.op .sub (.var 0) (.op .pow (.int 10) (.int 18))) (.acons (.op .mod (.var 0) (.int 2305843009213693951)) (.acons (.var 1) .anil)))))
  .nil)
  .nil)
  (.seq (.retC (.lst (.acons (.int 0) (.acons (.op .mod (.var 0) (.int 2305843009213693951)) (.acons (.var 1) .anil)))))
  .nil))
/-- _law_take (def 52) -/
def N_law_take : List Str := ["_law_bag", "_law_many", "_law_found", "_law_p", "_law_n"]
def P_law_take : List Str := ["_law_bag", "_law_many"]
def c_law_take : Cm :=
  (.seq (.ite (.cmp .gt (.ix (.var 0) (.int 0)) (.int 0))
  (.seq (.asg 2 (.dat (.op .mod (.ix (.var 0) (.int 0)) (.var 1))))
  (.seq (.setIx 0 (.int 0) (.op .fdiv (.ix (.var 0) (.int 0)) (.var 1)))
  (.seq (.ret (.var 2))
  .nil)))
  .nil)
  (.seq (.setIx 0 (.int 2) (.op .add (.ix (.var 0) (.int 2)) (.int 1)))
  (.seq (.asg 3 (.dat (.int 2305843009213693951)))
  (.seq (.asg 4 (.dat (.op .mod (.op .add (.ix (.var 0) (.int 1)) (.op .mul (.int 1000003) (.ix (.var 0) (.int 2)))) (.var 3))))
  (.seq (.asg 4 (.dat (.op .mod (.op .add (.op .add (.op .mul (.var 4) (.var 4)) (.op .mul (.int 7919) (.op .pow (.ix (.var 0) (.int 2)) (.int 2)))) (.int 5)) (.var 3))))
  (.seq (.ret (.op .mod (.op .fdiv (.op .mod (.op .pow (.var 4) (.int 3)) (.var 3)) (.int 13)) (.var 1)))
  .nil))))))
/-- _law_bags (def 53) -/
def N_law_bags : List Str := ["_law_script", "_law_most", "_law_k", "_law_cell"]
def P_law_bags : List Str := ["_law_script", "_law_most"]
def c_law_bags : Cm :=
  (.seq (.ret (.lc [("_law_k", 2), ("_law_cell", 3)] (.tup (.cons (.nm 2) (.cons (.nm 3) .nil))) (.enum (.op .add (.slc (.var 0) .anil (.acons (.var 1) .anil)) (.lst (.acons (.int 0) .anil)))) .anil (.call 51 (.acons (.var 3) (.acons (.op .mul (.int 977) (.var 2)) .anil)))))
  .nil)
/-- _law_same (def 54) -/
def N_law_same : List Str := ["_law_a", "_law_b", "_law_x", "_law_y"]
def P_law_same : List Str := ["_law_a", "_law_b"]
def c_law_same : Cm :=
  (.seq (.ite (.or (.acons (.and (.acons (.isi (.var 0) .list) (.acons (.isi (.var 1) .list) .anil))) (.acons (.and (.acons (.isi (.var 0) .tuple) (.acons (.isi (.var 1) .tuple) .anil))) .anil)))
  (.seq (.ret (.and (.acons (.cmp .eq (.blt .len (.acons (.var 0) .anil)) (.blt .len (.acons (.var 1) .anil))) (.acons (.blt .all (.acons (.lc [("_law_x", 2), ("_law_y", 3)] (.tup (.cons (.nm 2) (.cons (.nm 3) .nil))) (.zip (.var 0) (.var 1)) .anil (.call 54 (.acons (.var 2) (.acons (.var 3) .anil)))) .anil)) .anil))))
  .nil)
  .nil)
  (.seq (.ite (.or (.acons (.isiT (.var 0) [.bool, .list, .tuple]) (.acons (.isiT (.var 1) [.bool, .list, .tuple]) .anil)))
  (.seq (.ret (.and (.acons (.isi (.var 0) .bool) (.acons (.isi (.var 1) .bool) (.acons (.cmp .eq (.var 0) (.var 1)) .anil)))))
  .nil)
  .nil)
  (.seq (.ite (.or (.acons (.isi (.var 0) .int) (.acons (.isi (.var 1) .int) .anil)))
  (.seq (.ret (.and (.acons (.isi (.var 0) .int) (.acons (.isi (.var 1) .int) (.acons (.cmp .eq (.var 0) (.var 1)) .anil)))))
  .nil)
  .nil)
  (.seq (.ite (.or (.acons (.isi (.var 0) .str) (.acons (.isi (.var 1) .str) .anil)))
  (.seq (.ret (.and (.acons (.isi (.var 0) .str) (.acons (.isi (.var 1) .str) (.acons (.cmp .eq (.var 0) (.var 1)) .anil)))))
  .nil)
  .nil)
  (.seq (.ret (.and (.acons (.cmp .is (.var 0) .non) (.acons (.cmp .is (.var 1) .non) .anil))))
  .nil)))))
/-- _law_words (def 59) -/
def N_law_words : List Str := ["_law_bag", "_law_most", "_law_longest", "_law_turn"]
def P_law_words : List Str := ["_law_bag", "_law_most"]
def c_law_words : Cm :=
  (.seq (.asg 2 (.dat (.ix (.lst (.acons (.int 3) (.acons (.int 12) (.acons (.int 40) .anil)))) (.call 52 (.acons (.var 0) (.acons (.int 3) .anil))))))
  (.seq (.ret (.blt .tuple (.acons (.lc [("_law_turn", 3)] (.nm 3) (.range1 (.op .add (.int 1) (.call 52 (.acons (.var 0) (.acons (.var 1) .anil))))) .anil (.op .add (.int 1) (.call 52 (.acons (.var 0) (.acons (.var 2) .anil))))) .anil)))
  .nil))
/-- _law_width (def 68) -/
def N_law_width : List Str := ["_law_bag", "_law_words_here", "_law_wide"]
def P_law_width : List Str := ["_law_bag", "_law_words_here"]
def c_law_width : Cm :=
  (.seq (.asg 2 (.dat (.ix (.lst (.acons (.int 1) (.acons (.int 6) (.acons (.int 30) (.acons (.op .add (.blt .sum (.acons (.var 1) .anil)) (.blt .len (.acons (.var 1) .anil))) .anil))))) (.call 52 (.acons (.var 0) (.acons (.int 4) .anil))))))
  (.seq (.ret (.op .add (.blt .max (.acons (.var 1) .anil)) (.call 52 (.acons (.var 0) (.acons (.var 2) .anil)))))
  .nil))
/-- _law_fit (def 72) -/
def N_law_fit : List Str := ["_law_words_here", "_law_width_here", "_law_start", "_law_end_here"]
def P_law_fit : List Str := ["_law_words_here", "_law_width_here", "_law_start", "_law_end_here"]
def c_law_fit : Cm :=
  (.seq (.ret (.cmp .le (.op .sub (.op .sub (.op .add (.blt .sum (.acons (.slc (.var 0) (.acons (.var 2) .anil) (.acons (.var 3) .anil)) .anil)) (.var 3)) (.var 2)) (.int 1)) (.var 1)))
  .nil)
/-- _law_end (def 73) -/
def N_law_end : List Str := ["_law_words_here", "_law_width_here", "_law_start", "_law_end_here"]
def P_law_end : List Str := ["_law_words_here", "_law_width_here", "_law_start"]
def c_law_end : Cm :=
  (.seq (.asg 3 (.dat (.op .add (.var 2) (.int 1))))
  (.seq (.whl (.and (.acons (.cmp .lt (.var 3) (.blt .len (.acons (.var 0) .anil))) (.acons (.call 72 (.acons (.var 0) (.acons (.var 1) (.acons (.var 2) (.acons (.op .add (.var 3) (.int 1)) .anil))))) .anil)))
  (.seq (.asg 3 (.dat (.op .add (.var 3) (.int 1))))
  .nil))
  (.seq (.ret (.var 3))
  .nil)))
/-- _law_greedy (def 74) -/
def N_law_greedy : List Str := ["_law_words_here", "_law_width_here", "_law_start", "_law_found"]
def P_law_greedy : List Str := ["_law_words_here", "_law_width_here", "_law_start"]
def c_law_greedy : Cm :=
  (.seq (.asg 3 (.lst (.lst .anil)))
  (.seq (.whl (.cmp .lt (.var 2) (.blt .len (.acons (.var 0) .anil)))
  (.seq (.app 3 (.var 2))
  (.seq (.asg 2 (.dat (.call 73 (.acons (.var 0) (.acons (.var 1) (.acons (.var 2) .anil))))))
  .nil)))
  (.seq (.ret (.blt .tuple (.acons (.var 3) .anil)))
  .nil)))
/-- free_places (def 97) -/
def N_free_places_c : List Str := ["words", "width", "length", "lines", "places", "place"]
def P_free_places_c : List Str := ["words", "width", "length"]
def c_free_places_c : Cm :=
  (.seq (.ex (.call 5 (.acons (.var 0) (.acons (.var 1) .anil))))
  (.seq (.ite (.or (.acons (.not (.call 1 (.acons (.var 2) (.acons (.int 1) (.acons (.blt .min (.acons (.glob 1) (.acons (.var 1) .anil))) .anil))))) (.acons (.cmp .eq (.blt .len (.acons (.var 0) .anil)) (.glob 0)) .anil)))
  (.seq .never
  .nil)
  .nil)
  (.seq (.asg 3 (.dat (.blt .len (.acons (.call 10 (.acons (.var 0) (.acons (.var 1) (.acons (.int 0) .anil)))) .anil))))
  (.seq (.asg 4 (.lst (.lst .anil)))
  (.seq (.loop (.nm 5) (.range1 (.op .add (.blt .len (.acons (.var 0) .anil)) (.int 1)))
  (.seq (.ite (.cmp .eq (.blt .len (.acons (.call 10 (.acons (.op .add (.op .add (.slc (.var 0) .anil (.acons (.var 5) .anil)) (.tup (.acons (.var 2) .anil))) (.slc (.var 0) (.acons (.var 5) .anil) .anil)) (.acons (.var 1) (.acons (.int 0) .anil)))) .anil)) (.var 3))
  (.seq (.app 4 (.var 5))
  .nil)
  .nil)
  .nil))
  (.seq (.retO 4)
  .nil))))))
/-- law (def 64) -/
def N_law_k15 : List Str := ["_law_script", "_law_bag", "_law_words_here", "_law_width_here", "_law_lines", "_law_turn", "_law_index", "_law_good", "_law_length", "_law_due", "_law_place", "_law_told"]
def P_law_k15 : List Str := ["_law_script"]
def c_law_k15 : Cm :=
  (.seq (.loop (.nm 1) (.items (.call 53 (.acons (.var 0) (.acons (.int 6) .anil))))
  (.seq (.asg 2 (.dat (.call 59 (.acons (.var 1) (.acons (.int 40) .anil)))))
  (.seq (.asg 3 (.dat (.call 68 (.acons (.var 1) (.acons (.var 2) .anil)))))
  (.seq (.asg 4 (.dat (.blt .len (.acons (.call 74 (.acons (.var 2) (.acons (.var 3) (.acons (.int 0) .anil)))) .anil))))
  (.seq (.loop (.nm 5) (.range1 (.int 5))
  (.seq (.asg 6 (.dat (.call 52 (.acons (.var 1) (.acons (.blt .len (.acons (.var 2) .anil)) .anil)))))
  (.seq (.asg 7 (.lst (.lst .anil)))
  (.seq (.loop (.nm 8) (.range2 (.int 1) (.op .add (.blt .min (.acons (.int 40) (.acons (.var 3) .anil))) (.int 1)))
  (.seq (.ite (.cmp .eq (.blt .len (.acons (.call 74 (.acons (.op .add (.op .add (.slc (.var 2) .anil (.acons (.var 6) .anil)) (.tup (.acons (.var 8) .anil))) (.slc (.var 2) (.acons (.op .add (.var 6) (.int 1)) .anil) .anil)) (.acons (.var 3) (.acons (.int 0) .anil)))) .anil)) (.var 4))
  (.seq (.app 7 (.var 8))
  .nil)
  .nil)
  .nil))
  (.seq (.ite (.not (.call 54 (.acons (.call 34 (.acons (.var 2) (.acons (.var 3) (.acons (.var 6) .anil)))) (.acons (.ix (.var 7) (.neg (.int 1))) .anil))))
  (.seq (.ret (.bl false))
  .nil)
  .nil)
  (.seq (.par2 8 9 (.dat (.op .add (.int 1) (.call 52 (.acons (.var 1) (.acons (.blt .min (.acons (.int 40) (.acons (.var 3) .anil))) .anil))))) (.lst (.lst .anil)))
  (.seq (.loop (.nm 10) (.range1 (.op .add (.blt .len (.acons (.var 2) .anil)) (.int 1)))
  (.seq (.ite (.cmp .eq (.blt .len (.acons (.call 74 (.acons (.op .add (.op .add (.slc (.var 2) .anil (.acons (.var 10) .anil)) (.tup (.acons (.var 8) .anil))) (.slc (.var 2) (.acons (.var 10) .anil) .anil)) (.acons (.var 3) (.acons (.int 0) .anil)))) .anil)) (.var 4))
  (.seq (.app 9 (.var 10))
  .nil)
  .nil)
  .nil))
  (.seq (.asgC 11 (.call 97 (.acons (.var 2) (.acons (.var 3) (.acons (.var 8) .anil)))))
  (.seq (.frz 9)
  (.seq (.iteL 11 (.not (.call 54 (.acons (.var 11) (.acons (.var 9) .anil))))
  (.seq (.ret (.bl false))
  .nil)
  .nil)
  (.seq (.app 11 .non)
  (.seq (.ite (.not (.call 54 (.acons (.call 35 (.acons (.var 2) (.acons (.var 3) (.acons (.var 8) .anil)))) (.acons (.var 9) .anil))))
  (.seq (.ret (.bl false))
  .nil)
  .nil)
  .nil))))))))))))
  .nil)))))
  (.seq (.ret (.cmp .eq (.call 35 (.acons (.tup .anil) (.acons (.int 4) (.acons (.int 4) .anil)))) (.lst .anil)))
  .nil))
end Lin

set_option maxHeartbeats 1000000
/-! Specs, part A: the small checks. -/
namespace Lin
open PySem PySem.Spec

def noRef : Dat → Bool
  | .ref _ => false
  | .fn _ => false
  | _ => true
def isInt : Dat → Bool
  | .int _ => true
  | _ => false
def inR (lo hi : Int) : Dat → Bool
  | .int v => decide (lo ≤ v) && decide (v ≤ hi)
  | _ => false
noncomputable def F_is_integer : Fn := mkF (fun d : Dat => [d]) (fun d _ => noRef d = true) fun d mu => (.bl (isInt d), mu)
theorem ok_is_integer (G : Gam) : Good G c_is_integer N_is_integer.length P_is_integer.length F_is_integer := by
  refine mkF_good fun d mu h => ?_
  cases d <;> first | exact Bool.noConfusion h | simp [c_is_integer, N_is_integer, startE, isK, isInt]
theorem at_is_integer {d : Dat} {mu : Store} (h : noRef d = true) : F_is_integer [d] mu = some (.ok (.bl (isInt d)) mu) := mkF_at (fun a b h => by simpa using h) h
noncomputable def F_in_range : Fn := mkF (fun p : Dat × Int × Int => [p.1, .int p.2.1, .int p.2.2]) (fun p _ => noRef p.1 = true) fun p mu => (.bl (inR p.2.1 p.2.2 p.1), mu)
theorem ok_in_range (G : Gam) (h0 : G.fn 0 = some F_is_integer) (a0 : G.ar 0 = 1) : Good G c_in_range N_in_range.length P_in_range.length F_in_range := by
  refine mkF_good fun ⟨d, lo, hi⟩ mu h => ?_
  have h1 := callD_at (G := G) (mu := mu) h0 (ds := [d]) a0.symm (at_is_integer h)
  cases d with
  | ref n => exact Bool.noConfusion h
  | fn n => exact Bool.noConfusion h
  | _ => simp [c_in_range, N_in_range, startE, h1, isInt, inR]
theorem at_in_range {d : Dat} {lo hi : Int} {mu : Store} (h : noRef d = true) : F_in_range [d, .int lo, .int hi] mu = some (.ok (.bl (inR lo hi d)) mu) := mkF_at (a := (d, lo, hi)) (fun a b h => by
  obtain ⟨a1, a2, a3⟩ := a
  obtain ⟨b1, b2, b3⟩ := b
  simpa using h) h

/-- a tuple of whole numbers -/
def tI (ws : List Int) : Dat := .tup (ws.map .int)
theorem map_inj {xs ys : List Int} (h : xs.map Dat.int = ys.map Dat.int) : xs = ys := by
  induction xs generalizing ys with
  | nil => cases ys with
    | nil => rfl
    | cons _ _ => cases h
  | cons x xs ih => cases ys with
    | nil => cases h
    | cons y ys =>
      rw [List.map_cons, List.map_cons] at h
      injection h with h1 h2
      injection h1 with h1
      rw [h1, ih h2]
@[simp] theorem tI_inj {xs ys : List Int} : tI xs = tI ys ↔ xs = ys := ⟨fun h => map_inj (Dat.tup.inj h), fun h => by rw [h]⟩
/-- valid words -/
def isW : Dat → Bool
  | .tup ds => decide (ds.length ≤ 60) && ds.all (inR 1 40)
  | _ => false
def flatB : Dat → Bool
  | .tup ds => ds.all noRef
  | .ref _ => false
  | .fn _ => false
  | _ => true
theorem lc_plain {bind : Dat → Option Env} {tst : Env → Store → Option (Bool × Store)} {elt : Env → Store → Option (Dat × Store)} {mu : Store} (f : Dat → Dat) : ∀ {xs : List Dat}, (∀ x ∈ xs, ∃ rho, bind x = some rho ∧ tst rho mu = some (true, mu) ∧ elt rho mu = some (f x, mu)) → lcGo bind tst elt xs mu = some (xs.map f, mu)
  | [], _ => rfl
  | x :: xs, h => by
    obtain ⟨rho, h1, h2, h3⟩ := h x List.mem_cons_self
    have ih := lc_plain f (xs := xs) fun y hy => h y (List.mem_cons_of_mem _ hy)
    unfold lcGo
    rw [h1]
    simp only [h2, h3, ih, List.map_cons]
noncomputable def F_is_words : Fn := mkF (fun d : Dat => [d]) (fun d _ => flatB d = true) fun d mu => (.bl (isW d), mu)
theorem ok_is_words (G : Gam) (h1 : G.fn 1 = some F_in_range) (a1 : G.ar 1 = 3) (g0 : G.gc 0 = some 60) (g1 : G.gc 1 = some 40) : Good G c_is_words N_is_words.length P_is_words.length F_is_words := by
  refine mkF_good fun d mu h => ?_
  cases d with
  | ref n => exact Bool.noConfusion h
  | fn n => exact Bool.noConfusion h
  | tup ds =>
    have hd : ∀ x ∈ ds, noRef x = true := List.all_eq_true.mp h
    by_cases hl : ds.length ≤ 60
    · have hc : ds.length ≤ cap := by rw [cap_val]; omega
      have hi : ¬ ((60 : Int) < ds.length) := by omega
      simp [c_is_words, N_is_words, startE, isK, g0, hc, hi]
      rw [lc_plain (fun x => .bl (inR 1 40 x))]
      · rw [show (ds.map fun x => Dat.bl (inR 1 40 x)) = (ds.map (inR 1 40)).map .bl by rw [List.map_map]; rfl]
        simp only [bd_some, bdD_some, xb_all]
        simp [isW, hl]
      · intro x hx
        have hc := callD_at (G := G) (mu := mu) h1 (ds := [x, .int 1, .int 40]) a1.symm (at_in_range (hd x hx))
        simp [wipeE, g1, hc]
    · have hi : (60 : Int) < ds.length := by omega
      simp [c_is_words, N_is_words, startE, isK, isW, g0, hl, hi]
  | _ => simp [c_is_words, N_is_words, startE, isK, isW]
theorem one_inj (a b : Dat) (h : [a] = [b]) : a = b := by simpa using h
theorem at_is_words {d : Dat} {mu : Store} (h : flatB d = true) : F_is_words [d] mu = some (.ok (.bl (isW d)) mu) := mkF_at one_inj h
/-- words that are valid -/
def VW (ws : List Int) : Prop := ws.length ≤ 60 ∧ ∀ x ∈ ws, 1 ≤ x ∧ x ≤ 40
theorem flat_tI (ws : List Int) : flatB (tI ws) = true := by
  unfold tI flatB
  rw [List.all_eq_true]
  intro x hx
  obtain ⟨i, _, rfl⟩ := List.mem_map.mp hx
  rfl
theorem isW_tI {ws : List Int} (h : VW ws) : isW (tI ws) = true := by
  unfold tI isW
  rw [Bool.and_eq_true, List.all_eq_true]
  refine ⟨by simp [h.1], fun x hx => ?_⟩
  obtain ⟨i, hi, rfl⟩ := List.mem_map.mp hx
  have := h.2 i hi
  simp [inR, this.1, this.2]
noncomputable def F_check_words : Fn := mkF (fun d : Dat => [d]) (fun d _ => flatB d = true ∧ isW d = true) fun d mu => (.non, mu)
theorem ok_check_words (G : Gam) (h1 : G.fn 2 = some F_is_words) (a1 : G.ar 2 = 1) : Good G c_check_words N_check_words.length P_check_words.length F_check_words := by
  refine mkF_good fun d mu ⟨h, h2⟩ => ?_
  have hc := callD_at (G := G) (mu := mu) h1 (ds := [d]) a1.symm (at_is_words h)
  simp [c_check_words, N_check_words, startE, hc, h2]
theorem at_check_words {ws : List Int} {mu : Store} (h : VW ws) : F_check_words [tI ws] mu = some (.ok .non mu) := mkF_at one_inj ⟨flat_tI ws, isW_tI h⟩
end Lin

/-! Mathematics, part A: lines filled from an index. No program in sight. -/
namespace Lin

def wd (ws : List Int) (k : Nat) : Int := ws.getD k 0
/-- the length of the first k words, a space behind each -/
def pre (a : Nat → Int) : Nat → Int
  | 0 => 0
  | k + 1 => pre a k + a k + 1
/-- how far it goes -/
def goTo (a : Nat → Int) (lim : Int) : Nat → Nat → Nat
  | 0, j => j
  | f + 1, j => if pre a (j + 1) ≤ lim then goTo a lim f (j + 1) else j
/-- the next line's start -/
def nxt (ws : List Int) (w : Int) (i : Nat) : Nat := goTo (wd ws) (pre (wd ws) i + w + 1) (ws.length - (i + 1)) (i + 1)
structure Pos1 (a : Nat → Int) : Prop where
  h : ∀ k, 0 ≤ a k
theorem pre_lt {a : Nat → Int} (h : Pos1 a) {i j : Nat} (hl : i < j) : pre a i < pre a j := by
  induction j with
  | zero => omega
  | succ j ih =>
    have h1 := h.h j
    show pre a i < pre a j + a j + 1
    by_cases e : i = j
    · subst e; omega
    · have := ih (by omega); omega
theorem pre_le {a : Nat → Int} (h : Pos1 a) {i j : Nat} (hl : i ≤ j) : pre a i ≤ pre a j := by
  by_cases e : i = j
  · subst e; exact Int.le_refl _
  · exact Int.le_of_lt (pre_lt h (by omega))
theorem pre_inj {a : Nat → Int} (h : Pos1 a) {i j : Nat} (hl : pre a i ≤ pre a j) : i ≤ j := by
  by_cases e : i ≤ j
  · exact e
  · have := pre_lt h (i := j) (j := i) (by omega); omega
theorem goTo_spec {a : Nat → Int} (h : Pos1 a) (lim : Int) : ∀ f j, j ≤ goTo a lim f j ∧ goTo a lim f j ≤ j + f ∧ (pre a j ≤ lim → pre a (goTo a lim f j) ≤ lim) ∧ (goTo a lim f j < j + f → lim < pre a (goTo a lim f j + 1))
  | 0, j => ⟨Nat.le_refl _, Nat.le_refl _, fun h => h, fun h => by simp [goTo] at h⟩
  | f + 1, j => by
    unfold goTo
    by_cases e : pre a (j + 1) ≤ lim
    · rw [if_pos e]
      obtain ⟨h1, h2, h3, h4⟩ := goTo_spec h lim f (j + 1)
      exact ⟨by omega, by omega, fun _ => h3 e, fun q => h4 (by omega)⟩
    · rw [if_neg e]
      exact ⟨Nat.le_refl _, by omega, fun q => q, fun _ => by omega⟩
/-- what marks the next start j of a line from i among n words -/
structure IsN (a : Nat → Int) (n : Nat) (w : Int) (i j : Nat) : Prop where
  lt : i < j
  le : j ≤ n
  fit : pre a j ≤ pre a i + w + 1
  mx : j < n → pre a i + w + 1 < pre a (j + 1)
theorem IsN.eq {a : Nat → Int} (h : Pos1 a) {n : Nat} {w : Int} {i j j' : Nat} (x : IsN a n w i j) (y : IsN a n w i j') : j = j' := by
  rcases Nat.lt_trichotomy j j' with q | q | q
  · have h1 := x.mx (by have := y.le; omega)
    have h2 := pre_le h (i := j + 1) (j := j') q
    have := y.fit
    omega
  · exact q
  · have h1 := y.mx (by have := x.le; omega)
    have h2 := pre_le h (i := j' + 1) (j := j) q
    have := x.fit
    omega
/-- a later line starts no earlier -/
theorem IsN.mono {a : Nat → Int} (h : Pos1 a) {n : Nat} {w : Int} {i i' j j' : Nat} (x : IsN a n w i j) (y : IsN a n w i' j') (hi : i ≤ i') : j ≤ j' := by
  by_cases q : j ≤ j'
  · exact q
  · have h1 := y.mx (by have := x.le; omega)
    have h2 := pre_le h (i := j' + 1) (j := j) (by omega)
    have h3 := pre_le h hi
    have := x.fit
    omega
/-- valid words and a width for them -/
structure VX (ws : List Int) (w : Int) : Prop where
  v : VW ws
  lo : ∀ x ∈ ws, x ≤ w
  one : 1 ≤ w
  hi : w ≤ 2500
theorem wd_mem {ws : List Int} {k : Nat} (h : k < ws.length) : wd ws k ∈ ws := by
  unfold wd
  rw [List.getD_eq_getElem?_getD, List.getElem?_eq_getElem h]
  exact List.getElem_mem h
theorem wd_out {ws : List Int} {k : Nat} (h : ws.length ≤ k) : wd ws k = 0 := by
  unfold wd
  rw [List.getD_eq_getElem?_getD, List.getElem?_eq_none h]
  rfl
theorem VW.pos {ws : List Int} (h : VW ws) : Pos1 (wd ws) := ⟨fun k => by
  by_cases q : k < ws.length
  · have := h.2 _ (wd_mem q); omega
  · rw [wd_out (by omega)]; omega⟩
theorem VX.le {ws : List Int} {w : Int} (h : VX ws w) (k : Nat) : wd ws k ≤ w := by
  by_cases q : k < ws.length
  · exact h.lo _ (wd_mem q)
  · have := h.one
    rw [wd_out (by omega)]; omega
theorem nxt_is {ws : List Int} {w : Int} (h : VX ws w) {i : Nat} (hi : i < ws.length) : IsN (wd ws) ws.length w i (nxt ws w i) := by
  obtain ⟨h1, h2, h3, h4⟩ := goTo_spec h.v.pos (pre (wd ws) i + w + 1) (ws.length - (i + 1)) (i + 1)
  have hw := h.le i
  exact ⟨h1, by unfold nxt; omega, h3 (by show pre (wd ws) i + wd ws i + 1 ≤ _; omega), fun q => h4 (by unfold nxt at q; omega)⟩
theorem nxt_gt {ws : List Int} {w : Int} (h : VX ws w) {i : Nat} (hi : i < ws.length) : i < nxt ws w i := (nxt_is h hi).lt
theorem nxt_le {ws : List Int} {w : Int} (h : VX ws w) {i : Nat} (hi : i < ws.length) : nxt ws w i ≤ ws.length := (nxt_is h hi).le
theorem nxt_mono {ws : List Int} {w : Int} (h : VX ws w) {i j : Nat} (hij : i ≤ j) (hj : j < ws.length) : nxt ws w i ≤ nxt ws w j := (nxt_is h (by omega)).mono h.v.pos (nxt_is h hj) hij
/-- the line starts from i (f lines at most) -/
def chain (g : Nat → Nat) (n : Nat) : Nat → Nat → List Nat
  | 0, _ => []
  | f + 1, i => if i < n then i :: chain g n f (g i) else []
/-- enough turns -/
theorem chain_fuel {g : Nat → Nat} {n : Nat} (hg : ∀ i, i < n → i < g i) : ∀ f f' i, n - i ≤ f → n - i ≤ f' → chain g n f i = chain g n f' i
  | 0, f', i, h, _ => by
    have : ¬ i < n := by omega
    cases f' with
    | zero => rfl
    | succ f' => simp [chain, this]
  | f + 1, 0, i, _, h => by
    have : ¬ i < n := by omega
    simp [chain, this]
  | f + 1, f' + 1, i, h, h' => by
    unfold chain
    by_cases q : i < n
    · have := hg i q
      rw [if_pos q, if_pos q, chain_fuel hg f f' (g i) (by omega) (by omega)]
    · rw [if_neg q, if_neg q]
def starts (ws : List Int) (w : Int) (i : Nat) : List Nat := chain (nxt ws w) ws.length ws.length i
theorem starts_at {ws : List Int} {w : Int} (h : VX ws w) {i : Nat} (hi : i < ws.length) : starts ws w i = i :: starts ws w (nxt ws w i) := by
  unfold starts
  rw [chain_fuel (fun i hi => nxt_gt h hi) ws.length (ws.length + 1) i (by omega) (by omega)]
  show (if i < ws.length then _ else _) = _
  rw [if_pos hi]
theorem starts_end {ws : List Int} {w : Int} {i : Nat} (hi : ws.length ≤ i) : starts ws w i = [] := by
  unfold starts
  cases e : ws.length with
  | zero => rfl
  | succ n =>
    unfold chain
    rw [if_neg (by omega)]
theorem starts_len {ws : List Int} {w : Int} (h : VX ws w) : ∀ d i, ws.length - i = d → (starts ws w i).length ≤ d := by
  intro d
  induction d using Nat.strongRecOn with
  | ind d ih =>
    intro i e
    by_cases q : i < ws.length
    · have hg := nxt_gt h q
      rw [starts_at h q, List.length_cons]
      have := ih (ws.length - nxt ws w i) (by omega) _ rfl
      omega
    · rw [starts_end (by omega)]
      simp
theorem starts_mem {ws : List Int} {w : Int} (h : VX ws w) : ∀ d i, ws.length - i = d → ∀ x ∈ starts ws w i, i ≤ x ∧ x < ws.length := by
  intro d
  induction d using Nat.strongRecOn with
  | ind d ih =>
    intro i e x hx
    by_cases q : i < ws.length
    · have hg := nxt_gt h q
      rw [starts_at h q] at hx
      rcases List.mem_cons.mp hx with z | z
      · omega
      · have := ih (ws.length - nxt ws w i) (by omega) _ rfl x z
        omega
    · rw [starts_end (by omega)] at hx
      cases hx
end Lin

set_option maxHeartbeats 1000000
/-! Specs, part B: widths, indices, the next line. -/
namespace Lin
open PySem PySem.Spec

theorem maxI_le {xs : List Int} {w : Int} (h0 : xs ≠ []) : maxI xs ≤ w ↔ ∀ x ∈ xs, x ≤ w := by
  induction xs with
  | nil => exact absurd rfl h0
  | cons x r ih =>
    cases r with
    | nil => simp [maxI]
    | cons y r =>
      have e : maxI (x :: y :: r) = max x (maxI (y :: r)) := rfl
      rw [e]
      have ih := ih (by simp)
      constructor
      · intro h z hz
        rcases List.mem_cons.mp hz with q | q
        · omega
        · exact ih.mp (by omega) z q
      · intro h
        have h1 := h x List.mem_cons_self
        have h2 := ih.mpr fun z hz => h z (List.mem_cons_of_mem _ hz)
        omega
/-- a valid width, as data -/
def isX (ws : List Int) (d : Dat) : Bool := inR (maxI (1 :: ws)) 2500 d
theorem isX_iff {ws : List Int} {w : Int} (h : VW ws) : isX ws (.int w) = true ↔ VX ws w := by
  unfold isX inR
  rw [Bool.and_eq_true, decide_eq_true_eq, decide_eq_true_eq, maxI_le (by simp)]
  constructor
  · rintro ⟨h1, h2⟩
    exact ⟨h, fun x hx => h1 x (List.mem_cons_of_mem _ hx), h1 1 List.mem_cons_self, h2⟩
  · rintro ⟨_, h1, h2, h3⟩
    refine ⟨fun x hx => ?_, h3⟩
    rcases List.mem_cons.mp hx with q | q
    · omega
    · exact h1 x q
theorem len_cap {ws : List Int} (h : VW ws) : ws.length + 1 ≤ cap := by
  have := h.1
  rw [cap_val]
  omega
noncomputable def F_is_width : Fn := mkF (fun p : List Int × Dat => [tI p.1, p.2]) (fun p _ => VW p.1 ∧ noRef p.2 = true) fun p mu => (.bl (isX p.1 p.2), mu)
theorem ok_is_width (G : Gam) (h1 : G.fn 1 = some F_in_range) (a1 : G.ar 1 = 3) (g0 : G.gc 2 = some 2500) : Good G c_is_width N_is_width.length P_is_width.length F_is_width := by
  refine mkF_good fun ⟨ws, d⟩ mu ⟨hv, hd⟩ => ?_
  replace hv : VW ws := hv
  have hc := callD_at (G := G) (mu := mu) h1 (ds := [d, .int (maxI (1 :: ws)), .int 2500]) a1.symm (at_in_range hd)
  have hm := xb_max (rho := [some (Slot.dat (.tup (ws.map .int))), some (.dat d)]) (mu := mu) (h := .dat (.tup ((1 :: ws).map .int))) (n := 1) (ns := ws) rfl
  have hl := len_cap hv
  have hl2 : 1 + ws.length ≤ cap := by omega
  have hl3 : 1 ≤ cap := by rw [cap_val]; omega
  simp at hm
  simp [c_is_width, N_is_width, startE, tI, g0, hl2, hl3, hm, hc, isX]
theorem two_inj {ws ws' : List Int} {d d' : Dat} (h : [tI ws, d] = [tI ws', d']) : ws = ws' ∧ d = d' := by simpa using h
theorem at_is_width {ws : List Int} {d : Dat} {mu : Store} (h : VW ws) (hd : noRef d = true) : F_is_width [tI ws, d] mu = some (.ok (.bl (isX ws d)) mu) := mkF_at (a := (ws, d)) (fun a b h => by
  obtain ⟨a1, a2⟩ := a
  obtain ⟨b1, b2⟩ := b
  simpa using h) ⟨h, hd⟩
noncomputable def F_check_text : Fn := mkF (fun p : List Int × Int => [tI p.1, .int p.2]) (fun p _ => VX p.1 p.2) fun p mu => (.non, mu)
theorem ok_check_text (G : Gam) (h1 : G.fn 3 = some F_check_words) (a1 : G.ar 3 = 1) (h2 : G.fn 4 = some F_is_width) (a2 : G.ar 4 = 2) : Good G c_check_text N_check_text.length P_check_text.length F_check_text := by
  refine mkF_good fun ⟨ws, w⟩ mu h => ?_
  have hx : isX ws (.int w) = true := (isX_iff h.v).mpr h
  have c1 := callD_at (G := G) (mu := mu) h1 (ds := [tI ws]) a1.symm (at_check_words h.v)
  have c2 := callD_at (G := G) (mu := mu) h2 (ds := [tI ws, .int w]) a2.symm (at_is_width h.v rfl)
  simp [c_check_text, N_check_text, startE, c1, c2, hx]
theorem at_check_text {ws : List Int} {w : Int} {mu : Store} (h : VX ws w) : F_check_text [tI ws, .int w] mu = some (.ok .non mu) := mkF_at (a := (ws, w)) (fun a b h => by
  obtain ⟨a1, a2⟩ := a
  obtain ⟨b1, b2⟩ := b
  simpa using h) h
noncomputable def F_check_index : Fn := mkF (fun p : List Int × Int => [tI p.1, .int p.2]) (fun p _ => 0 ≤ p.2 ∧ p.2 < p.1.length) fun p mu => (.non, mu)
theorem ok_check_index (G : Gam) (h1 : G.fn 1 = some F_in_range) (a1 : G.ar 1 = 3) : Good G c_check_index N_check_index.length P_check_index.length F_check_index := by
  refine mkF_good fun ⟨ws, i⟩ mu ⟨h1', h2'⟩ => ?_
  have c1 := callD_at (G := G) (mu := mu) h1 (ds := [.int i, .int 0, .int ((ws.length : Int) - 1)]) a1.symm (at_in_range rfl)
  have hx : inR 0 ((ws.length : Int) - 1) (.int i) = true := by
    simp at h1' h2'
    simp [inR, h1']
    omega
  simp [c_check_index, N_check_index, startE, tI, c1, hx]
theorem at_check_index {ws : List Int} {i : Nat} {mu : Store} (h : i < ws.length) : F_check_index [tI ws, .int (i : Int)] mu = some (.ok .non mu) := mkF_at (a := (ws, (i : Int))) (fun a b h => by
  obtain ⟨a1, a2⟩ := a
  obtain ⟨b1, b2⟩ := b
  simpa using h) ⟨by simp, by simp; omega⟩
noncomputable def F_next_index : Fn := mkF (fun p : List Int × Int × Nat => [tI p.1, .int p.2.1, .int (p.2.2 : Int)]) (fun p _ => VX p.1 p.2.1 ∧ p.2.2 < p.1.length) fun p mu => (.int (nxt p.1 p.2.1 p.2.2 : Nat), mu)
theorem ok_next_index (G : Gam) : Good G c_next_index N_next_index.length P_next_index.length F_next_index := by
  refine mkF_good fun ⟨ws, w, i⟩ mu ⟨h, hi⟩ => ?_
  replace h : VX ws w := h
  replace hi : i < ws.length := hi
  have e0 : at? (ws.map .int) (i : Int) = some (.int (wd ws i)) := at_int hi
  simp [c_next_index, N_next_index, startE, tI, e0]
  refine wp_whl (fun m rho mu' => ∃ j : Nat, rho = [some (.dat (tI ws)), some (.dat (.int w)), some (.dat (.int (j : Int))), some (.dat (.int (pre (wd ws) j - pre (wd ws) i - 1)))] ∧ mu' = mu ∧ m = ws.length - j ∧ i < j ∧ j ≤ ws.length ∧ pre (wd ws) j ≤ pre (wd ws) i + w + 1) ?_ ?_
  · have hp : pre (wd ws) (i + 1) = pre (wd ws) i + wd ws i + 1 := rfl
    have hw := h.le i
    refine ⟨_, i + 1, ?_, rfl, rfl, by omega, by omega, by omega⟩
    rw [hp]
    simp [tI]
    omega
  · rintro m rho mu' ⟨j, rfl, rfl, rfl, hij, hj, hf⟩
    have hp : pre (wd ws) (j + 1) = pre (wd ws) j + wd ws j + 1 := rfl
    by_cases hl : j < ws.length
    · have e1 : at? (ws.map .int) (j : Int) = some (.int (wd ws j)) := at_int hl
      by_cases hq : pre (wd ws) (j + 1) ≤ pre (wd ws) i + w + 1
      · have q : pre (wd ws) j - pre (wd ws) i + wd ws j ≤ w := by omega
        simp [tI, hl, e1, q]
        exact ⟨_, by omega, j + 1, ⟨by simp, by rw [hp]; omega⟩, rfl, by omega, by omega, by omega⟩
      · have q : ¬ pre (wd ws) j - pre (wd ws) i + wd ws j ≤ w := by omega
        simp [tI, hl, e1, q]
        exact congrArg (fun n : Nat => (n : Int)) ((nxt_is h hi).eq h.v.pos ⟨hij, hj, hf, fun _ => by omega⟩).symm
    · simp [tI, hl]
      exact congrArg (fun n : Nat => (n : Int)) ((nxt_is h hi).eq h.v.pos ⟨hij, hj, hf, fun q => absurd q hl⟩).symm
theorem inj3 {p q : List Int × Int × Nat} (h : [tI p.1, Dat.int p.2.1, Dat.int (p.2.2 : Int)] = [tI q.1, Dat.int q.2.1, Dat.int (q.2.2 : Int)]) : p = q := by
  obtain ⟨a1, a2, a3⟩ := p
  obtain ⟨b1, b2, b3⟩ := q
  simp at h
  obtain ⟨h1, h2, h3⟩ := h
  rw [h1, h2]
  congr 2
  omega
theorem at_next_index {ws : List Int} {w : Int} {i : Nat} {mu : Store} (h : VX ws w) (hi : i < ws.length) : F_next_index [tI ws, .int w, .int (i : Int)] mu = some (.ok (.int (nxt ws w i : Nat)) mu) := mkF_at (a := (ws, w, i)) (fun a b h => inj3 h) ⟨h, hi⟩
theorem inj2 {p q : List Int × Int} (h : [tI p.1, Dat.int p.2] = [tI q.1, Dat.int q.2]) : p = q := by
  obtain ⟨a1, a2⟩ := p
  obtain ⟨b1, b2⟩ := q
  simpa using h
/-- indices as numbers -/
def nI (xs : List Nat) : List Int := xs.map Int.ofNat
theorem nI_append (xs ys : List Nat) : nI (xs ++ ys) = nI xs ++ nI ys := List.map_append
theorem nI_len (xs : List Nat) : (nI xs).length = xs.length := List.length_map _
noncomputable def F_starts_of : Fn := mkF (fun p : List Int × Int × Nat => [tI p.1, .int p.2.1, .int (p.2.2 : Int)]) (fun p _ => VX p.1 p.2.1 ∧ p.2.2 ≤ p.1.length) fun p mu => (tI (nI (starts p.1 p.2.1 p.2.2)), mu)
theorem ok_starts_of (G : Gam) (h9 : G.fn 9 = some F_next_index) (a9 : G.ar 9 = 3) : Good G c_starts_of N_starts_of.length P_starts_of.length F_starts_of := by
  refine mkF_good fun ⟨ws, w, i⟩ mu ⟨h, hi⟩ => ?_
  replace h : VX ws w := h
  replace hi : i ≤ ws.length := hi
  simp [c_starts_of, N_starts_of, startE, tI]
  refine wp_whl (fun m rho mu' => ∃ (j : Nat) (acc : List Nat), rho = [some (.dat (tI ws)), some (.dat (.int w)), some (.dat (.int (j : Int))), some (.own (.lst ((nI acc).map .int)))] ∧ mu' = mu ∧ m = ws.length - j ∧ j ≤ ws.length ∧ acc.length ≤ j ∧ starts ws w i = acc ++ starts ws w j) ?_ ?_
  · exact ⟨_, i, [], rfl, rfl, rfl, hi, by simp, rfl⟩
  · rintro m rho mu' ⟨j, acc, rfl, rfl, rfl, hj, hacc, hst⟩
    by_cases hl : j < ws.length
    · have hc := callD_at (G := G) (mu := mu') h9 (ds := [tI ws, .int w, .int (j : Int)]) a9.symm (at_next_index h hl)
      have h60 := h.v.1
      have hcap : acc.length < cap := by rw [cap_val]; omega
      have hn := nxt_gt h hl
      have hn2 := nxt_le h hl
      simp [tI, hl, cellAt, putCell, nI_len, hcap]
      simp [tI] at hc
      simp [hc]
      refine ⟨_, ?_, nxt ws w j, acc ++ [j], ⟨rfl, ?_⟩, rfl, hn2, ?_, ?_⟩
      · omega
      · simp [nI]
      · simp; omega
      · rw [hst, starts_at h hl]; simp
    · have hj2 : ws.length ≤ j := by omega
      rw [starts_end hj2, List.append_nil] at hst
      simp [tI, hl, hst]
theorem at_starts_of {ws : List Int} {w : Int} {i : Nat} {mu : Store} (h : VX ws w) (hi : i ≤ ws.length) : F_starts_of [tI ws, .int w, .int (i : Int)] mu = some (.ok (tI (nI (starts ws w i))) mu) := mkF_at (a := (ws, w, i)) (fun a b h => inj3 h) ⟨h, hi⟩
noncomputable def F_starts_from : Fn := mkF (fun p : List Int × Int × Nat => [tI p.1, .int p.2.1, .int (p.2.2 : Int)]) (fun p _ => VX p.1 p.2.1 ∧ p.2.2 < p.1.length) fun p mu => (tI (nI (starts p.1 p.2.1 p.2.2)), mu)
theorem ok_starts_from (G : Gam) (h5 : G.fn 5 = some F_check_text) (a5 : G.ar 5 = 2) (h6 : G.fn 6 = some F_check_index) (a6 : G.ar 6 = 2) (h10 : G.fn 10 = some F_starts_of) (a10 : G.ar 10 = 3) : Good G c_starts_from N_starts_from.length P_starts_from.length F_starts_from := by
  refine mkF_good fun ⟨ws, w, i⟩ mu ⟨h, hi⟩ => ?_
  replace h : VX ws w := h
  replace hi : i < ws.length := hi
  have c5 := callD_at (G := G) (mu := mu) h5 (ds := [tI ws, .int w]) a5.symm (at_check_text h)
  have c6 := callD_at (G := G) (mu := mu) h6 (ds := [tI ws, .int (i : Int)]) a6.symm (at_check_index hi)
  have c10 := callD_at (G := G) (mu := mu) h10 (ds := [tI ws, .int w, .int (i : Int)]) a10.symm (at_starts_of h (Nat.le_of_lt hi))
  simp [c_starts_from, N_starts_from, startE, c5, c6, c10]
theorem at_starts_from {ws : List Int} {w : Int} {i : Nat} {mu : Store} (h : VX ws w) (hi : i < ws.length) : F_starts_from [tI ws, .int w, .int (i : Int)] mu = some (.ok (tI (nI (starts ws w i))) mu) := mkF_at (a := (ws, w, i)) (fun a b h => inj3 h) ⟨h, hi⟩
noncomputable def F_line_starts : Fn := mkF (fun p : List Int × Int => [tI p.1, .int p.2]) (fun p _ => VX p.1 p.2) fun p mu => (tI (nI (starts p.1 p.2 0)), mu)
theorem ok_line_starts (G : Gam) (h5 : G.fn 5 = some F_check_text) (a5 : G.ar 5 = 2) (h10 : G.fn 10 = some F_starts_of) (a10 : G.ar 10 = 3) : Good G c_line_starts N_line_starts.length P_line_starts.length F_line_starts := by
  refine mkF_good fun ⟨ws, w⟩ mu h => ?_
  replace h : VX ws w := h
  have c5 := callD_at (G := G) (mu := mu) h5 (ds := [tI ws, .int w]) a5.symm (at_check_text h)
  have c10 := callD_at (G := G) (mu := mu) h10 (ds := [tI ws, .int w, .int ((0 : Nat) : Int)]) a10.symm (at_starts_of h (Nat.zero_le _))
  simp at c10
  simp [c_line_starts, N_line_starts, startE, c5, c10]
theorem at_line_starts {ws : List Int} {w : Int} {mu : Store} (h : VX ws w) : F_line_starts [tI ws, .int w] mu = some (.ok (tI (nI (starts ws w 0))) mu) := mkF_at (a := (ws, w)) (fun a b h => inj2 h) h
noncomputable def F_check_count : Fn := mkF (fun p : Int × Int × Int => [.int p.1, .int p.2.1, .int p.2.2]) (fun p _ => p.2.1 ≤ p.1 ∧ p.1 ≤ p.2.2) fun p mu => (.non, mu)
theorem ok_check_count (G : Gam) (h1 : G.fn 1 = some F_in_range) (a1 : G.ar 1 = 3) : Good G c_check_count N_check_count.length P_check_count.length F_check_count := by
  refine mkF_good fun ⟨v, lo, hi⟩ mu ⟨e1, e2⟩ => ?_
  replace e1 : lo ≤ v := e1
  replace e2 : v ≤ hi := e2
  have c1 := callD_at (G := G) (mu := mu) h1 (ds := [.int v, .int lo, .int hi]) a1.symm (at_in_range rfl)
  simp [c_check_count, N_check_count, startE, c1, inR, e1, e2]
theorem at_check_count {v lo hi : Int} {mu : Store} (e1 : lo ≤ v) (e2 : v ≤ hi) : F_check_count [.int v, .int lo, .int hi] mu = some (.ok .non mu) := mkF_at (a := (v, lo, hi)) (fun a b h => by
  obtain ⟨a1, a2, a3⟩ := a
  obtain ⟨b1, b2, b3⟩ := b
  simpa using h) ⟨e1, e2⟩
end Lin

set_option maxHeartbeats 1000000
/-! Specs, part C: a law's bag of numbers. -/
namespace Lin
open PySem PySem.Spec

def ixC (c : Option Cell) (k : Dat) : Option Dat := match c, k with
  | some (.lst ds), .int i => at? ds i
  | some (.dic t kvs), k => dget t kvs k
  | _, _ => none
@[simp] theorem ixC_lst (ds : List Dat) (i : Int) : ixC (some (.lst ds)) (.int i) = at? ds i := (rfl)
@[simp] theorem ixC_dic (t : Bool) (kvs : List (Dat × Dat)) (k : Dat) : ixC (some (.dic t kvs)) k = dget t kvs k := by cases k <;> rfl
def lstC : Option Cell → Option (List Dat)
  | some (.lst ds) => some ds
  | _ => none
def dicC : Option Cell → Option (Bool × List (Dat × Dat))
  | some (.dic t ds) => some (t, ds)
  | _ => none
theorem ixD_cell {rho : Env} {mu : Store} {h : Hd} {k : Dat} (c : Option Cell) (h1 : seqA rho mu h = lstC c) (h2 : dicOf rho mu h = dicC c) : ixD rho mu h k = ixC c k := by
  unfold ixD
  rw [h1, h2]
  cases c with
  | none => cases k <;> rfl
  | some c => cases c <;> cases k <;> rfl
@[simp] theorem ixD_ref (rho : Env) (mu : Store) (n : Nat) (k : Dat) : ixD rho mu (.dat (.ref n)) k = ixC mu[n]? k := ixD_cell _ rfl rfl
def ownC (s : Option (Option Slot)) : Option Cell := match s with
  | some (some (.own c)) => some c
  | _ => none
@[simp] theorem ownC_own (c : Cell) : ownC (some (some (.own c))) = some c := (rfl)
@[simp] theorem ixD_own (rho : Env) (mu : Store) (n : Nat) (k : Dat) : ixD rho mu (.own n) k = ixC (ownC rho[n]?) k := ixD_cell (rho.cell n) rfl rfl
def Bag (mu : Store) (n : Nat) (c : Nat) : Prop := ∃ s p q : Int, mu[n]? = some (.lst [.int s, .int p, .int q]) ∧ 0 ≤ s ∧ 0 ≤ q ∧ q ≤ c
/-- only the n-th cell is another -/
def Fr (mu mu' : Store) (n : Nat) : Prop := mu'.length = mu.length ∧ ∀ m, m ≠ n → mu'[m]? = mu[m]?
theorem Fr.refl (mu : Store) (n : Nat) : Fr mu mu n := ⟨rfl, fun _ _ => rfl⟩
theorem Fr.trans {mu mu' mu2 : Store} {n : Nat} (a : Fr mu mu' n) (b : Fr mu' mu2 n) : Fr mu mu2 n := ⟨b.1.trans a.1, fun m h => (b.2 m h).trans (a.2 m h)⟩
theorem Fr.set (mu : Store) (n : Nat) (c : Cell) : Fr mu (mu.set n c) n := ⟨List.length_set, fun m h => List.getElem?_set_ne (Ne.symm h)⟩
theorem Bag.mono {mu : Store} {n c c' : Nat} (h : Bag mu n c) (l : c ≤ c') : Bag mu n c' := by
  obtain ⟨s, p, q, h1, h2, h3, h4⟩ := h
  exact ⟨s, p, q, h1, h2, h3, by omega⟩
theorem Bag.fr {mu mu' : Store} {n m c : Nat} (h : Bag mu m c) (f : Fr mu mu' n) (ne : m ≠ n) : Bag mu' m c := by
  obtain ⟨s, p, q, h1, h2⟩ := h
  exact ⟨s, p, q, by rw [f.2 m ne, h1], h2⟩
def S_take (F : Fn) : Prop := ∀ (n : Nat) (many : Int) (mu : Store) (c : Nat), 1 ≤ many → many ≤ 10 ^ 18 → c ≤ 10 ^ 7 → Bag mu n c →
  ∃ (r : Int) (mu' : Store), F [.ref n, .int many] mu = some (.ok (.int r) mu') ∧ 0 ≤ r ∧ r < many ∧ Bag mu' n (c + 1) ∧ Fr mu mu' n
theorem ok_take (G : Gam) : S_take (mkB G c_law_take N_law_take.length) := by
  intro n many mu c hm hM hc ⟨s, p, q, hb, hs, hq, hqc⟩
  have hn : n < mu.length := (List.getElem?_eq_some_iff.mp hb).1
  have hset : ∀ c, (mu.set n c)[n]? = some c := fun c => List.getElem?_set_self hn
  clear hn
  have key := mkB_at (G := G) (c := c_law_take) (n := N_law_take.length) (ds := [.ref n, .int many]) (mu := mu) (Post := fun d mu' => ∃ r, d = .int r ∧ 0 ≤ r ∧ r < many ∧ Bag mu' n (c + 1) ∧ Fr mu mu' n) ?_
  · obtain ⟨d, mu', h1, r, rfl, h2⟩ := key
    exact ⟨r, mu', h1, h2⟩
  · have hmod : ∀ x : Int, arith .mod x many = some (x % many) := fun x => ar_mod (by omega)
    have hdiv : ∀ x : Int, arith .fdiv x many = some (x / many) := fun x => ar_fdiv ⟨by omega, by
      have h1 : many.natAbs ≤ 10 ^ 18 := by omega
      exact Nat.lt_of_le_of_lt h1 (by decide +kernel)⟩
    by_cases h0 : 0 < s
    · simp [c_law_take, N_law_take, startE, hb, h0, hmod, hdiv, cellAt, putCell, place]
      refine ⟨Int.emod_nonneg _ (by omega), Int.emod_lt_of_pos _ (by omega), ⟨s / many, p, q, ?_, Int.ediv_nonneg hs (by omega), hq, by omega⟩, .set _ _ _⟩
      exact hset _
    · have e1 : arith .mul 1000003 (q + 1) = some (1000003 * (q + 1)) := ar_mul (.inl (by decide))
      have e2 : ∀ x : Int, arith .mod x 2305843009213693951 = some (x % 2305843009213693951) := fun x => ar_mod (by decide)
      have e3 : ∀ x : Int, arith .mul (x % 2305843009213693951) (x % 2305843009213693951) = some (x % 2305843009213693951 * (x % 2305843009213693951)) := fun x => ar_mul (.inl (by omega))
      have e4 : arith .pow (q + 1) 2 = some ((q + 1) ^ 2) := ar_pow ⟨by decide, by decide, by omega⟩
      have e5 : ∀ x : Int, arith .mul 7919 x = some (7919 * x) := fun x => ar_mul (.inl (by decide))
      have e6 : ∀ x : Int, arith .pow (x % 2305843009213693951) 3 = some ((x % 2305843009213693951) ^ 3) := fun x => ar_pow ⟨by decide, by decide, by omega⟩
      have e7 : ∀ x : Int, arith .fdiv x 13 = some (x / 13) := fun x => ar_fdiv ⟨by decide, by
        exact Nat.lt_of_lt_of_le (by decide : (13 : Int).natAbs < 2 ^ 4) (Nat.pow_le_pow_right (by decide) (by decide))⟩
      simp [c_law_take, N_law_take, startE, hb, h0, hmod, hdiv, cellAt, putCell, place, hset, e1, e2, e3, e4, e5, e6, e7]
      refine ⟨Int.emod_nonneg _ (by omega), Int.emod_lt_of_pos _ (by omega), ⟨s, p, q + 1, ?_, hs, by omega, by omega⟩, .set _ _ _⟩
      exact hset _
end Lin

set_option maxHeartbeats 1000000
/-! Specs, part D: a law's bags, words, width. -/
namespace Lin
open PySem PySem.Spec

def S_well (F : Fn) : Prop := ∀ (cell turn : Int) (mu : Store), ∃ s p : Int, F [.int cell, .int turn] mu = some (.ok (.ref mu.length) (mu ++ [.lst [.int s, .int p, .int turn]])) ∧ 0 ≤ s
theorem ok_well (G : Gam) : S_well (mkB G c_law_well N_law_well.length) := by
  intro cell turn mu
  have key := mkB_at (G := G) (c := c_law_well) (n := N_law_well.length) (ds := [.int cell, .int turn]) (mu := mu) (Post := fun d mu' => ∃ s p : Int, d = .ref mu.length ∧ mu' = mu ++ [.lst [.int s, .int p, .int turn]] ∧ 0 ≤ s) ?_
  · obtain ⟨d, mu', h1, s, p, rfl, rfl, h2⟩ := key
    exact ⟨s, p, h1, h2⟩
  · have e1 : arith .pow 10 18 = some (10 ^ 18) := ar_pow (by decide)
    have e2 : ∀ x : Int, arith .mod x 2305843009213693951 = some (x % 2305843009213693951) := fun x => ar_mod (by decide)
    have hc : 3 ≤ cap := by decide
    by_cases h : (10 : Int) ^ 18 ≤ cell
    · have h' : (1000000000000000000 : Int) ≤ cell := by omega
      simp [c_law_well, N_law_well, startE, e1, e2, h', isFr, hc]
    · have h' : ¬ (1000000000000000000 : Int) ≤ cell := by omega
      simp [c_law_well, N_law_well, startE, e1, e2, h', isFr, hc]
/-- a comprehension, turn by turn -/
theorem lc_turns {bind : Dat → Option Env} {tst : Env → Store → Option (Bool × Store)} {elt : Env → Store → Option (Dat × Store)} (I : Nat → Store → Prop) (O : Nat → Dat → Prop) : ∀ (xs : List Dat) (k : Nat) (mu : Store),
    (∀ i x mu, xs[i]? = some x → I (k + i) mu → ∃ rho d mu', bind x = some rho ∧ tst rho mu = some (true, mu) ∧ elt rho mu = some (d, mu') ∧ I (k + i + 1) mu' ∧ O (k + i) d) → I k mu →
    ∃ ds mu', lcGo bind tst elt xs mu = some (ds, mu') ∧ ds.length = xs.length ∧ I (k + xs.length) mu' ∧ ∀ i d, ds[i]? = some d → O (k + i) d
  | [], k, mu, _, h => ⟨[], mu, rfl, rfl, h, fun i d e => by simp at e⟩
  | x :: xs, k, mu, h, h0 => by
    obtain ⟨rho, d, mu1, h1, h2, h3, h4, h5⟩ := h 0 x mu rfl h0
    obtain ⟨ds, mu2, g1, g2, g3, g4⟩ := lc_turns I O xs (k + 1) mu1 (fun i y m hy hi => by
      have e : k + 1 + i = k + (i + 1) := by omega
      rw [e] at hi ⊢
      exact h (i + 1) y m (by simpa using hy) hi) h4
    refine ⟨d :: ds, mu2, ?_, by simp [g2], ?_, fun i e he => ?_⟩
    · unfold lcGo
      rw [h1]
      simp only [h2, h3, g1]
    · rw [List.length_cons]
      have e : k + (xs.length + 1) = k + 1 + xs.length := by omega
      rw [e]
      exact g3
    · cases i with
      | zero =>
        have : d = e := by simpa using he
        subst this
        exact h5
      | succ i =>
        have e2 : k + (i + 1) = k + 1 + i := by omega
        rw [e2]
        exact g4 i e (by simpa using he)
theorem enumD_at : ∀ {xs : List Dat} {n i : Nat} {d : Dat}, (enumD n xs)[i]? = some d → ∃ x, d = .tup [.int ((n + i : Nat) : Int), x] ∧ xs[i]? = some x := enumD_get
def S_bags (F : Fn) : Prop := ∀ (ns : List Int) (most : Nat), most ≤ 60 → ∃ (k : Nat) (mu' : Store), F [.lst (ns.map .int), .int (most : Int)] [] = some (.ok (.lst ((List.range k).map .ref)) mu') ∧ mu'.length = k ∧ ∀ n, n < k → Bag mu' n 60000
theorem ok_bags (G : Gam) {Fw : Fn} (h51 : G.fn 51 = some Fw) (a51 : G.ar 51 = 2) (hw : S_well Fw) : S_bags (mkB G c_law_bags N_law_bags.length) := by
  intro ns most hm
  have key := mkB_at (G := G) (c := c_law_bags) (n := N_law_bags.length) (ds := [.lst (ns.map .int), .int (most : Int)]) (mu := []) (Post := fun d mu' => ∃ k, d = .lst ((List.range k).map .ref) ∧ mu'.length = k ∧ ∀ n, n < k → Bag mu' n 60000) ?_
  · obtain ⟨d, mu', h1, k, rfl, h2⟩ := key
    exact ⟨k, mu', h1, h2⟩
  · have hl : (ns.take most).length ≤ 60 := by rw [List.length_take]; omega
    have hc1 : 1 ≤ cap := by decide
    have hc2 : (ns.take most).length + 1 ≤ cap := by rw [cap_val]; omega
    have hc3 : (List.map Dat.int (ns.take most)).length + 1 ≤ cap := by rw [List.length_map]; exact hc2
    have hc4 : (enumD 0 (List.map Dat.int (ns.take most) ++ [Dat.int 0])).length ≤ cap := by rw [enumD_len, List.length_append]; exact hc3
    have hc5 : min most ns.length + 1 ≤ cap := by rw [cap_val]; omega
    simp only [List.length_map, List.map_take] at hc3 hc4
    obtain ⟨ds, mu', g1, g2, g3, g4⟩ := lc_turns (bind := fun x => bindT (.tup (.cons (.nm 2) (.cons (.nm 3) .nil))) x (wipeE (startE 4 [.lst (ns.map .int), .int (most : Int)]) [2, 3])) (tst := fun rho' mu' => evTs G .anil rho' mu') (elt := fun rho' mu' => bdD (ev G (.call 51 (.acons (.var 3) (.acons (.op .mul (.int 977) (.var 2)) .anil))) rho' mu') fun d mu2 => some (d, mu2))
      (fun i mu => mu.length = i ∧ ∀ n, n < i → Bag mu n 60000) (fun i d => d = .ref i) (enumD 0 ((ns.take most).map .int ++ [.int 0])) 0 [] (fun i x mu hx ⟨hmu, hb⟩ => by
        obtain ⟨y, rfl, hy⟩ := enumD_at hx
        have hi : i < ((ns.take most).map Dat.int ++ [Dat.int 0]).length := (List.getElem?_eq_some_iff.mp hy).1
        have hi60 : i ≤ 60 := by rw [List.length_append, List.length_map] at hi; simp at hi; omega
        obtain ⟨z, rfl⟩ : ∃ z : Int, y = .int z := by
          have hm := List.mem_of_getElem? hy
          rcases List.mem_append.mp hm with q | q
          · obtain ⟨z, _, rfl⟩ := List.mem_map.mp q
            exact ⟨z, rfl⟩
          · exact ⟨0, by simpa using q⟩
        have e1 : arith .mul 977 (i : Int) = some (977 * (i : Int)) := ar_mul (.inl (by decide))
        obtain ⟨s, p, hF, hs⟩ := hw z (977 * (i : Int)) mu
        have hcall := callD_at (G := G) (mu := mu) h51 (ds := [.int z, .int (977 * (i : Int))]) a51.symm hF
        refine ⟨_, .ref i, mu ++ [.lst [.int s, .int p, .int (977 * (i : Int))]], rfl, rfl, ?_, ⟨?_, fun n hn => ?_⟩, by simp⟩
        · simp [startE, wipeE, e1, hcall]
          omega
        · simp; omega
        · by_cases e : n < i
          · obtain ⟨s', p', q', h1, h2⟩ := hb n (by omega)
            exact ⟨s', p', q', by rw [List.getElem?_append_left (by omega)]; exact h1, h2⟩
          · have e : n = mu.length := by omega
            subst e
            refine ⟨s, p, 977 * (i : Int), by simp, hs, by omega, by omega⟩) ⟨rfl, fun n hn => by omega⟩
    have hds : ds = (List.range ds.length).map .ref := by
      apply List.ext_getElem?
      intro i
      by_cases hi : i < ds.length
      · have := g4 i _ (List.getElem?_eq_getElem hi)
        rw [List.getElem?_eq_getElem hi, this]
        simp [hi]
      · rw [List.getElem?_eq_none (by omega), List.getElem?_eq_none (by simp; omega)]
    have hcut : cut (ns.map Dat.int) none (some (most : Int)) = (ns.map Dat.int).take most := cut_to _ _
    simp [startE] at g1
    simp [c_law_bags, N_law_bags, startE, hcut, hc1, hc3, hc4, hc5]
    rw [g1]
    simp
    refine ⟨ds.length, hds, ?_, ?_⟩
    · rw [g2, g3.1]; omega
    · rw [g2]
      intro n hn
      exact g3.2 n (by omega)
end Lin

set_option maxHeartbeats 1000000
/-! Specs, part E: a law's words and width. -/
namespace Lin
open PySem PySem.Spec

theorem ints_of {P : Int → Prop} : ∀ {ds : List Dat}, (∀ d ∈ ds, ∃ x, d = .int x ∧ P x) → ∃ ws : List Int, ds = ws.map .int ∧ ∀ x ∈ ws, P x
  | [], _ => ⟨[], rfl, fun _ h => by cases h⟩
  | d :: ds, h => by
    obtain ⟨ws, h1, h2⟩ := ints_of (ds := ds) fun e he => h e (List.mem_cons_of_mem _ he)
    obtain ⟨x, rfl, hx⟩ := h d List.mem_cons_self
    refine ⟨x :: ws, by rw [h1]; rfl, fun y hy => ?_⟩
    rcases List.mem_cons.mp hy with q | q
    · rw [q]; exact hx
    · exact h2 y q
theorem rangeD_len' (lo : Int) (n : Nat) : (rangeD lo n).length = n := rangeD_len lo n
def S_words (F : Fn) : Prop := ∀ (n : Nat) (most : Int) (mu : Store) (c : Nat), 1 ≤ most → most ≤ 60 → c ≤ 10 ^ 6 → Bag mu n c →
  ∃ (ws : List Int) (mu' : Store), F [.ref n, .int most] mu = some (.ok (tI ws) mu') ∧ VW ws ∧ ws ≠ [] ∧ ws.length ≤ most ∧ Bag mu' n (c + 62) ∧ Fr mu mu' n
theorem ok_words (G : Gam) {Ft : Fn} (h52 : G.fn 52 = some Ft) (a52 : G.ar 52 = 2) (ht : S_take Ft) : S_words (mkB G c_law_words N_law_words.length) := by
  intro n most mu c h1 h60 hc hb
  have key := mkB_at (G := G) (c := c_law_words) (n := N_law_words.length) (ds := [.ref n, .int most]) (mu := mu) (Post := fun d mu' => ∃ ws, d = tI ws ∧ VW ws ∧ ws ≠ [] ∧ ws.length ≤ most ∧ Bag mu' n (c + 62) ∧ Fr mu mu' n) ?_
  · obtain ⟨d, mu', h1, ws, rfl, h2⟩ := key
    exact ⟨ws, mu', h1, h2⟩
  · have tk := fun (many : Int) (mu : Store) (c : Nat) (h1 : 1 ≤ many) (h2 : many ≤ 10 ^ 18) (h3 : c ≤ 10 ^ 7) (hb : Bag mu n c) => ht n many mu c h1 h2 h3 hb
    obtain ⟨r, mu1, f1, r0, r1, b1, fr1⟩ := tk 3 mu c (by omega) (by omega) (by omega) hb
    have c1 := callD_at (G := G) (mu := mu) h52 (ds := [.ref n, .int 3]) a52.symm f1
    obtain ⟨lg, hlg, hl0, hl1⟩ : ∃ lg : Int, at? [Dat.int 3, .int 12, .int 40] r = some (.int lg) ∧ 1 ≤ lg ∧ lg ≤ 40 := by
      have : r = 0 ∨ r = 1 ∨ r = 2 := by omega
      rcases this with e | e | e <;> subst e
      · exact ⟨3, by simp, by omega, by omega⟩
      · exact ⟨12, by simp, by omega, by omega⟩
      · exact ⟨40, by simp, by omega, by omega⟩
    obtain ⟨r2, mu2, f2, r20, r21, b2, fr2⟩ := tk most mu1 (c + 1) h1 (by omega) (by omega) b1
    have c2 := callD_at (G := G) (mu := mu1) h52 (ds := [.ref n, .int most]) a52.symm f2
    have hc3 : 3 ≤ cap := by decide
    have hs : smallI (1 + r2) := ⟨by omega, by omega⟩
    have hcl : (1 + r2).toNat ≤ cap := by rw [cap_val]; omega
    obtain ⟨ds, mu', g1, g2, g3, g4⟩ := lc_turns (bind := fun x => bindT (.nm 3) x (wipeE [some (Slot.dat (.ref n)), some (.dat (.int most)), some (.dat (.int lg)), none] [3])) (tst := fun rho' mu' => evTs G .anil rho' mu') (elt := fun rho' mu' => bdD (ev G (.op .add (.int 1) (.call 52 (.acons (.var 0) (.acons (.var 2) .anil)))) rho' mu') fun d mu2 => some (d, mu2))
      (fun i mu => Bag mu n (c + 2 + i) ∧ Fr mu2 mu n ∧ i ≤ 60) (fun i d => ∃ x, d = .int x ∧ 1 ≤ x ∧ x ≤ 40) (rangeD 0 (1 + r2).toNat) 0 mu2 (fun i x mu hx ⟨hB, hF, hi⟩ => by
        have hil : i < (rangeD 0 (1 + r2).toNat).length := (List.getElem?_eq_some_iff.mp hx).1
        rw [rangeD_len] at hil
        obtain ⟨r3, mu3, f3, r30, r31, b3, fr3⟩ := tk lg mu (c + 2 + (0 + i)) hl0 (by omega) (by omega) hB
        have c3 := callD_at (G := G) (mu := mu) h52 (ds := [.ref n, .int lg]) a52.symm f3
        refine ⟨_, .int (1 + r3), mu3, rfl, rfl, ?_, ⟨b3, hF.trans fr3, by omega⟩, _, rfl, by omega, by omega⟩
        simp [wipeE, c3]) ⟨by simpa using b2, .refl _ _, by omega⟩
    obtain ⟨ws, hds, hws⟩ := ints_of (ds := ds) (P := fun x => 1 ≤ x ∧ x ≤ 40) fun d hd => by
      obtain ⟨i, hi⟩ := List.getElem?_of_mem hd
      exact g4 i d hi
    rw [rangeD_len] at g2 g3
    have hwl : ws.length = (1 + r2).toNat := by rw [← g2, hds, List.length_map]
    simp at g1
    simp [c_law_words, N_law_words, startE, hc3, c1, hlg, c2, hs, rangeD_len, hcl]
    rw [g1]
    simp
    refine ⟨ws, by rw [hds]; rfl, ⟨by omega, hws⟩, ?_, by omega, g3.1.mono (by omega), (fr1.trans fr2).trans g3.2.1⟩
    intro e
    rw [e] at hwl
    simp at hwl
    omega
theorem sum_le {ws : List Int} (h : ∀ x ∈ ws, 1 ≤ x ∧ x ≤ 40) : 0 ≤ ws.sum ∧ ws.sum ≤ 40 * ws.length := by
  induction ws with
  | nil => simp
  | cons x r ih =>
    have h1 := h x List.mem_cons_self
    have h2 := ih fun y hy => h y (List.mem_cons_of_mem _ hy)
    rw [List.sum_cons, List.length_cons]
    omega
theorem maxI_in : ∀ {xs : List Int}, xs ≠ [] → maxI xs ∈ xs
  | [], h => absurd rfl h
  | [x], _ => by simp [maxI]
  | x :: y :: r, _ => by
    have ih := maxI_in (xs := y :: r) (by simp)
    show max x (maxI (y :: r)) ∈ _
    by_cases h : x ≤ maxI (y :: r)
    · rw [Int.max_eq_right h]; exact List.mem_cons_of_mem _ ih
    · rw [Int.max_eq_left (by omega)]; exact List.mem_cons_self
def S_width (F : Fn) : Prop := ∀ (n : Nat) (ws : List Int) (mu : Store) (c : Nat), VW ws → ws ≠ [] → c ≤ 10 ^ 6 → Bag mu n c →
  ∃ (w : Int) (mu' : Store), F [.ref n, tI ws] mu = some (.ok (.int w) mu') ∧ VX ws w ∧ Bag mu' n (c + 2) ∧ Fr mu mu' n
theorem ok_width (G : Gam) {Ft : Fn} (h52 : G.fn 52 = some Ft) (a52 : G.ar 52 = 2) (ht : S_take Ft) : S_width (mkB G c_law_width N_law_width.length) := by
  intro n ws mu c hv hne hc hb
  have key := mkB_at (G := G) (c := c_law_width) (n := N_law_width.length) (ds := [.ref n, tI ws]) (mu := mu) (Post := fun d mu' => ∃ w, d = .int w ∧ VX ws w ∧ Bag mu' n (c + 2) ∧ Fr mu mu' n) ?_
  · obtain ⟨d, mu', h1, ws, rfl, h2⟩ := key
    exact ⟨ws, mu', h1, h2⟩
  · obtain ⟨r, mu1, f1, r0, r1, b1, fr1⟩ := ht n 4 mu c (by omega) (by omega) (by omega) hb
    have c1 := callD_at (G := G) (mu := mu) h52 (ds := [.ref n, .int 4]) a52.symm f1
    obtain ⟨s0, s1⟩ := sum_le hv.2
    have hl := hv.1
    have hlp : 0 < ws.length := List.length_pos_iff.mpr hne
    have hmm := hv.2 _ (maxI_in hne)
    obtain ⟨x, r', hx⟩ : ∃ x r', ws = x :: r' := by
      cases ws with
      | nil => exact absurd rfl hne
      | cons x r' => exact ⟨x, r', rfl⟩
    obtain ⟨lg, hlg, hl0, hl1⟩ : ∃ lg : Int, at? [Dat.int 1, .int 6, .int 30, .int (ws.sum + ws.length)] r = some (.int lg) ∧ 1 ≤ lg ∧ lg ≤ 2460 := by
      have : r = 0 ∨ r = 1 ∨ r = 2 ∨ r = 3 := by omega
      rcases this with e | e | e | e <;> subst e
      · exact ⟨1, by simp, by omega, by omega⟩
      · exact ⟨6, by simp, by omega, by omega⟩
      · exact ⟨30, by simp, by omega, by omega⟩
      · exact ⟨_, at_nat (i := 3) rfl, by omega, by omega⟩
    obtain ⟨r2, mu2, f2, r20, r21, b2, fr2⟩ := ht n lg mu1 (c + 1) hl0 (by omega) (by omega) b1
    have c2 := callD_at (G := G) (mu := mu1) h52 (ds := [.ref n, .int lg]) a52.symm f2
    have hc4 : 4 ≤ cap := by decide
    have hsum : ∀ rho mu, bltD rho mu .sum [.dat (.tup (ws.map .int))] = some (.int ws.sum) := fun rho mu => xb_sum rfl
    have hmax : ∀ rho mu, bltD rho mu .max [.dat (.tup (ws.map .int))] = some (.int (maxI ws)) := fun rho mu => by
      rw [hx]; exact xb_max rfl
    simp [c_law_width, N_law_width, startE, tI, hsum, hmax, hc4, c1, hlg, c2]
    refine ⟨⟨hv, fun y hy => ?_, by omega, by omega⟩, b2, fr1.trans fr2⟩
    have := (maxI_le hne).mp (Int.le_refl _) y hy
    omega
end Lin

set_option maxHeartbeats 1000000
/-! Specs, part F: equal data. -/
namespace Lin
open PySem PySem.Spec

mutual
/-- data without truth values, texts, cells; not deeper than k -/
def nbD : Nat → Dat → Bool
  | _, .non => true
  | _, .int _ => true
  | _, .str x => PySem.PyData.strOk x
  | k + 1, .tup xs => nbDs k xs
  | k + 1, .lst xs => nbDs k xs
  | _, _ => false
def nbDs : Nat → List Dat → Bool
  | _, [] => true
  | k, x :: xs => nbD k x && nbDs k xs
end
mutual
theorem nb_pd : ∀ {k : Nat} {d : Dat}, nbD k d = true → ∃ p, pd d = some p ∧ p.depth ≤ k + 1
  | _, .non, _ => ⟨.none, rfl, by simp [PyData.depth]⟩
  | _, .int i, _ => ⟨.int i, rfl, by simp [PyData.depth]⟩
  | 0, .tup xs, h => by simp [nbD] at h
  | 0, .lst xs, h => by simp [nbD] at h
  | k + 1, .tup xs, h => by
    obtain ⟨ps, h1, h2⟩ := nb_pds (k := k) (ds := xs) (by simpa [nbD] using h)
    exact ⟨.tuple ps, by simp [pd, h1], by simp [PyData.depth]; omega⟩
  | k + 1, .lst xs, h => by
    obtain ⟨ps, h1, h2⟩ := nb_pds (k := k) (ds := xs) (by simpa [nbD] using h)
    exact ⟨.list ps, by simp [pd, h1], by simp [PyData.depth]; omega⟩
  | _, .bl _, h => by simp [nbD] at h
  | k, .str x, h => by
    have hx : PySem.PyData.strOk x = true := by cases k <;> simpa [nbD] using h
    exact ⟨.str x, by simp [pd, hx], by simp [PyData.depth]⟩
  | _, .ref _, h => by simp [nbD] at h
theorem nb_pds : ∀ {k : Nat} {ds : List Dat}, nbDs k ds = true → ∃ p, pds ds = some p ∧ PyData.depthAll p ≤ k + 1
  | _, [], _ => ⟨[], rfl, by simp [PyData.depthAll]⟩
  | k, d :: ds, h => by
    rw [nbDs, Bool.and_eq_true] at h
    obtain ⟨p, h1, h2⟩ := nb_pd h.1
    obtain ⟨ps, h3, h4⟩ := nb_pds h.2
    exact ⟨p :: ps, by simp [pds, h1, h3], by simp [PyData.depthAll]; omega⟩
end
mutual
theorem nb_eqv : ∀ {k j : Nat} {d e : Dat} {p q : PyData}, nbD k d = true → nbD j e = true → pd d = some p → pd e = some q → PyData.eqv p q = decide (d = e)
  | k, j, .non, e, p, q, h1, h2, h3, h4 => by
    cases h3
    cases e with
    | non => cases h4; simp [PyData.eqv]
    | int i => cases h4; simp [PyData.eqv]
    | tup xs =>
      have h4' : (pds xs).map PyData.tuple = some q := h4
      cases hp : pds xs with
      | none => rw [hp] at h4'; cases h4'
      | some ps => rw [hp] at h4'; cases h4'; simp [PyData.eqv]
    | lst xs =>
      have h4' : (pds xs).map PyData.list = some q := h4
      cases hp : pds xs with
      | none => rw [hp] at h4'; cases h4'
      | some ps => rw [hp] at h4'; cases h4'; simp [PyData.eqv]
    | str x =>
      have hx : PySem.PyData.strOk x = true := by cases j <;> simpa [nbD] using h2
      simp [pd, hx] at h4
      subst h4
      simp [PyData.eqv]
    | _ => simp [nbD] at h2
  | k, j, .int a, e, p, q, h1, h2, h3, h4 => by
    cases h3
    cases e with
    | non => cases h4; simp [PyData.eqv]
    | int i => cases h4; simp [PyData.eqv, Bool.beq_eq_decide_eq]
    | tup xs =>
      have h4' : (pds xs).map PyData.tuple = some q := h4
      cases hp : pds xs with
      | none => rw [hp] at h4'; cases h4'
      | some ps => rw [hp] at h4'; cases h4'; simp [PyData.eqv]
    | lst xs =>
      have h4' : (pds xs).map PyData.list = some q := h4
      cases hp : pds xs with
      | none => rw [hp] at h4'; cases h4'
      | some ps => rw [hp] at h4'; cases h4'; simp [PyData.eqv]
    | str x =>
      have hx : PySem.PyData.strOk x = true := by cases j <;> simpa [nbD] using h2
      simp [pd, hx] at h4
      subst h4
      simp [PyData.eqv]
    | _ => simp [nbD] at h2
  | 0, j, .tup xs, e, p, q, h1, h2, h3, h4 => by simp [nbD] at h1
  | 0, j, .lst xs, e, p, q, h1, h2, h3, h4 => by simp [nbD] at h1
  | k + 1, j, .tup xs, e, p, q, h1, h2, h3, h4 => by
    have h3' : (pds xs).map PyData.tuple = some p := h3
    cases hp : pds xs with
    | none => rw [hp] at h3'; cases h3'
    | some ps =>
      rw [hp] at h3'; cases h3'
      cases e with
      | non => cases h4; simp [PyData.eqv]
      | int i => cases h4; simp [PyData.eqv]
      | tup ys =>
        have h4' : (pds ys).map PyData.tuple = some q := h4
        cases hq : pds ys with
        | none => rw [hq] at h4'; cases h4'
        | some qs =>
          rw [hq] at h4'; cases h4'
          cases j with
          | zero => simp [nbD] at h2
          | succ j =>
            have := nb_eqvs (k := k) (j := j) (ds := xs) (es := ys) (by simpa [nbD] using h1) (by simpa [nbD] using h2) hp hq
            simp [PyData.eqv, this]
      | lst ys =>
        have h4' : (pds ys).map PyData.list = some q := h4
        cases hq : pds ys with
        | none => rw [hq] at h4'; cases h4'
        | some qs => rw [hq] at h4'; cases h4'; simp [PyData.eqv]
      | str x =>
        have hx : PySem.PyData.strOk x = true := by cases j <;> simpa [nbD] using h2
        simp [pd, hx] at h4
        subst h4
        simp [PyData.eqv]
      | _ => simp [nbD] at h2
  | k + 1, j, .lst xs, e, p, q, h1, h2, h3, h4 => by
    have h3' : (pds xs).map PyData.list = some p := h3
    cases hp : pds xs with
    | none => rw [hp] at h3'; cases h3'
    | some ps =>
      rw [hp] at h3'; cases h3'
      cases e with
      | non => cases h4; simp [PyData.eqv]
      | int i => cases h4; simp [PyData.eqv]
      | lst ys =>
        have h4' : (pds ys).map PyData.list = some q := h4
        cases hq : pds ys with
        | none => rw [hq] at h4'; cases h4'
        | some qs =>
          rw [hq] at h4'; cases h4'
          cases j with
          | zero => simp [nbD] at h2
          | succ j =>
            have := nb_eqvs (k := k) (j := j) (ds := xs) (es := ys) (by simpa [nbD] using h1) (by simpa [nbD] using h2) hp hq
            simp [PyData.eqv, this]
      | tup ys =>
        have h4' : (pds ys).map PyData.tuple = some q := h4
        cases hq : pds ys with
        | none => rw [hq] at h4'; cases h4'
        | some qs => rw [hq] at h4'; cases h4'; simp [PyData.eqv]
      | str x =>
        have hx : PySem.PyData.strOk x = true := by cases j <;> simpa [nbD] using h2
        simp [pd, hx] at h4
        subst h4
        simp [PyData.eqv]
      | _ => simp [nbD] at h2
  | _, _, .bl _, _, _, _, h, _, _, _ => by simp [nbD] at h
  | k, j, .str x, e, p, q, h1, h2, h3, h4 => by
    have hx : PySem.PyData.strOk x = true := by cases k <;> simpa [nbD] using h1
    simp [pd, hx] at h3
    subst h3
    cases e with
    | non => cases h4; simp [PyData.eqv]
    | int i => cases h4; simp [PyData.eqv]
    | str y =>
      have hy : PySem.PyData.strOk y = true := by cases j <;> simpa [nbD] using h2
      simp [pd, hy] at h4
      subst h4
      simp [PyData.eqv, Bool.beq_eq_decide_eq]
    | tup xs =>
      have h4' : (pds xs).map PyData.tuple = some q := h4
      cases hp : pds xs with
      | none => rw [hp] at h4'; cases h4'
      | some ps => rw [hp] at h4'; cases h4'; simp [PyData.eqv]
    | lst xs =>
      have h4' : (pds xs).map PyData.list = some q := h4
      cases hp : pds xs with
      | none => rw [hp] at h4'; cases h4'
      | some ps => rw [hp] at h4'; cases h4'; simp [PyData.eqv]
    | _ => simp [nbD] at h2
  | _, _, .ref _, _, _, _, h, _, _, _ => by simp [nbD] at h
theorem nb_eqvs : ∀ {k j : Nat} {ds es : List Dat} {p q : List PyData}, nbDs k ds = true → nbDs j es = true → pds ds = some p → pds es = some q → PyData.eqvAll p q = decide (ds = es)
  | k, j, [], [], p, q, _, _, h3, h4 => by cases h3; cases h4; simp [PyData.eqvAll]
  | k, j, [], e :: es, p, q, _, h2, h3, h4 => by
    cases h3
    rw [nbDs, Bool.and_eq_true] at h2
    obtain ⟨p, h5, _⟩ := nb_pd h2.1
    obtain ⟨ps, h6, _⟩ := nb_pds h2.2
    simp [pds, h5, h6] at h4
    subst h4
    simp [PyData.eqvAll]
  | k, j, d :: ds, [], p, q, h1, _, h3, h4 => by
    cases h4
    rw [nbDs, Bool.and_eq_true] at h1
    obtain ⟨p, h5, _⟩ := nb_pd h1.1
    obtain ⟨ps, h6, _⟩ := nb_pds h1.2
    simp [pds, h5, h6] at h3
    subst h3
    simp [PyData.eqvAll]
  | k, j, d :: ds, e :: es, p, q, h1, h2, h3, h4 => by
    rw [nbDs, Bool.and_eq_true] at h1 h2
    obtain ⟨p1, g1, _⟩ := nb_pd h1.1
    obtain ⟨ps, g2, _⟩ := nb_pds h1.2
    obtain ⟨q1, g3, _⟩ := nb_pd h2.1
    obtain ⟨qs, g4, _⟩ := nb_pds h2.2
    simp [pds, g1, g2] at h3
    simp [pds, g3, g4] at h4
    subst h3 h4
    simp [PyData.eqvAll, nb_eqv h1.1 h2.1 g1 g3, nb_eqvs h1.2 h2.2 g2 g4]
end
theorem eqD_nb {d e : Dat} (h1 : nbD 60 d = true) (h2 : nbD 60 e = true) : eqD d e = some (decide (d = e)) := by
  obtain ⟨p, g1, g2⟩ := nb_pd h1
  obtain ⟨q, g3, g4⟩ := nb_pd h2
  unfold eqD
  rw [g1, g3]
  show (if p.depth ≤ 64 ∧ q.depth ≤ 64 then some (PyData.eqv p q) else none) = _
  rw [if_pos ⟨by omega, by omega⟩, nb_eqv h1 h2 g1 g3]
theorem nbs_of {k : Nat} : ∀ {ds : List Dat}, (∀ d ∈ ds, nbD k d = true) → nbDs k ds = true
  | [], _ => rfl
  | d :: ds, h => by
    rw [nbDs, h d List.mem_cons_self, nbs_of fun e he => h e (List.mem_cons_of_mem _ he)]
    rfl
@[simp] theorem nb_int (k : Nat) (i : Int) : nbD k (.int i) = true := by cases k <;> rfl
@[simp] theorem nb_non (k : Nat) : nbD k .non = true := by cases k <;> rfl
theorem nb_ints (k : Nat) (ns : List Int) : nbDs k (ns.map .int) = true := nbs_of fun d hd => by
  obtain ⟨i, _, rfl⟩ := List.mem_map.mp hd
  simp
@[simp] theorem nb_tI (k : Nat) (ns : List Int) : nbD (k + 1) (tI ns) = true := nb_ints k ns
@[simp] theorem nb_tI' (k : Nat) (ns : List Int) : nbD (k + 1) (.tup (ns.map .int)) = true := nb_ints k ns
@[simp] theorem nb_lI (k : Nat) (ns : List Int) : nbD (k + 1) (.lst (ns.map .int)) = true := nb_ints k ns
@[simp] theorem eqD_ii (i j : Int) : eqD (.int i) (.int j) = some (decide (i = j)) := by rw [eqD_nb (by simp) (by simp)]; simp
@[simp] theorem eqD_tt (a b : List Int) : eqD (.tup (a.map .int)) (.tup (b.map .int)) = some (decide (a = b)) := by
  rw [eqD_nb (nb_tI' 59 a) (nb_tI' 59 b)]
  congr 1
  rw [decide_eq_decide]
  exact tI_inj
theorem eqD_tT (a b : List Int) : eqD (tI a) (tI b) = some (decide (a = b)) := eqD_tt a b
@[simp] theorem eqD_nn : eqD .non .non = some true := by rw [eqD_nb (by simp) (by simp)]; simp
@[simp] theorem eqD_ni (i : Int) : eqD .non (.int i) = some false := by rw [eqD_nb (by simp) (by simp)]; simp
@[simp] theorem eqD_in (i : Int) : eqD (.int i) .non = some false := by rw [eqD_nb (by simp) (by simp)]; simp
end Lin

/-! Mathematics, part B: layouts that meet; their lengths. -/
namespace Lin

theorem starts_up {ws : List Int} {w : Int} (h : VX ws w) {i x : Nat} (hx : x ∈ starts ws w i) : i ≤ x ∧ x < ws.length := starts_mem h _ i rfl x hx
/-- k is on the way from i; the end is, too -/
def Rch (ws : List Int) (w : Int) (i k : Nat) : Prop := k ∈ starts ws w i ∨ k = ws.length
theorem Rch.step {ws : List Int} {w : Int} (h : VX ws w) {i k : Nat} (hi : i < ws.length) : Rch ws w i k ↔ k = i ∨ Rch ws w (nxt ws w i) k := by
  unfold Rch
  rw [starts_at h hi, List.mem_cons]
  constructor
  · rintro ((q | q) | q)
    · exact .inl q
    · exact .inr (.inl q)
    · exact .inr (.inr q)
  · rintro (q | q | q)
    · exact .inl (.inl q)
    · exact .inl (.inr q)
    · exact .inr q
theorem Rch.ge {ws : List Int} {w : Int} (h : VX ws w) {i k : Nat} (hi : i ≤ ws.length) (r : Rch ws w i k) : i ≤ k := by
  rcases r with q | q
  · exact (starts_up h q).1
  · omega
theorem Rch.self {ws : List Int} {w : Int} (h : VX ws w) {i : Nat} (hi : i ≤ ws.length) : Rch ws w i i := by
  by_cases q : i < ws.length
  · exact (Rch.step h q).mpr (.inl rfl)
  · exact .inr (by omega)
/-- the first common one -/
structure IsMeet (ws : List Int) (w : Int) (i j m : Nat) : Prop where
  l : Rch ws w i m
  r : Rch ws w j m
  mn : ∀ k, Rch ws w i k → Rch ws w j k → m ≤ k
theorem IsMeet.symm {ws : List Int} {w : Int} {i j m : Nat} (x : IsMeet ws w i j m) : IsMeet ws w j i m := ⟨x.r, x.l, fun k a b => x.mn k b a⟩
theorem IsMeet.eq {ws : List Int} {w : Int} {i j m m' : Nat} (x : IsMeet ws w i j m) (y : IsMeet ws w i j m') : m = m' := by
  have := x.mn m' y.l y.r
  have := y.mn m x.l x.r
  omega
theorem IsMeet.le {ws : List Int} {w : Int} (h : VX ws w) {i j m : Nat} (x : IsMeet ws w i j m) : m ≤ ws.length := by
  rcases x.l with q | q
  · exact Nat.le_of_lt (starts_up h q).2
  · omega
theorem IsMeet.step {ws : List Int} {w : Int} (h : VX ws w) {i j m : Nat} (hij : i < j) (hj : j ≤ ws.length) (x : IsMeet ws w (nxt ws w i) j m) : IsMeet ws w i j m := by
  have hi : i < ws.length := by omega
  refine ⟨(Rch.step h hi).mpr (.inr x.l), x.r, fun k a b => ?_⟩
  rcases (Rch.step h hi).mp a with q | q
  · have := b.ge h hj
    omega
  · exact x.mn k q b
theorem len_mono {ws : List Int} {w : Int} (h : VX ws w) : ∀ d i j, ws.length - i = d → i ≤ j → (starts ws w j).length ≤ (starts ws w i).length := by
  intro d
  induction d using Nat.strongRecOn with
  | ind d ih =>
    intro i j e hij
    by_cases hj : j < ws.length
    · have hi : i < ws.length := by omega
      have hg := nxt_gt h hi
      rw [starts_at h hi, starts_at h hj, List.length_cons, List.length_cons]
      have := ih (ws.length - nxt ws w i) (by omega) _ (nxt ws w j) rfl (nxt_mono h hij hj)
      omega
    · rw [starts_end (by omega)]
      exact Nat.zero_le _
theorem len_up {ws : List Int} {w : Int} (h : VX ws w) : ∀ d i, (starts ws w i).length ≤ (starts ws w (i + d)).length + d
  | 0, i => Nat.le_refl _
  | d + 1, i => by
    have h1 := len_up h d (i + 1)
    have e : i + 1 + d = i + (d + 1) := by omega
    rw [e] at h1
    by_cases hi : i < ws.length
    · have hg := nxt_gt h hi
      rw [starts_at h hi, List.length_cons]
      have := len_mono h _ (i + 1) (nxt ws w i) rfl hg
      omega
    · rw [starts_end (by omega)]
      simp
/-- place by place no later -/
theorem zip_le {ws : List Int} {w : Int} (h : VX ws w) : ∀ d i j, ws.length - i = d → i ≤ j → ∀ (k x y : Nat), (starts ws w i)[k]? = some x → (starts ws w j)[k]? = some y → x ≤ y := by
  intro d
  induction d using Nat.strongRecOn with
  | ind d ih =>
    intro i j e hij k x y hx hy
    by_cases hj : j < ws.length
    · have hi : i < ws.length := by omega
      have hg := nxt_gt h hi
      rw [starts_at h hi] at hx
      rw [starts_at h hj] at hy
      cases k with
      | zero =>
        simp at hx hy
        omega
      | succ k =>
        exact ih (ws.length - nxt ws w i) (by omega) _ (nxt ws w j) rfl (nxt_mono h hij hj) k x y (by simpa using hx) (by simpa using hy)
    · rw [starts_end (by omega)] at hy
      simp at hy
end Lin

set_option maxHeartbeats 1000000
/-! Specs, part G: meeting. -/
namespace Lin
open PySem PySem.Spec

def meetD (n m : Nat) : Dat := if m < n then .int (m : Int) else .non
def S_meeting (F : Fn) : Prop := ∀ (ws : List Int) (w : Int) (i j : Nat) (mu : Store), VX ws w → i < ws.length → j < ws.length → ∃ m : Nat, F [tI ws, .int w, .int (i : Int), .int (j : Int)] mu = some (.ok (meetD ws.length m) mu) ∧ IsMeet ws w i j m
theorem ok_meeting_of (G : Gam) (h9 : G.fn 9 = some F_next_index) (a9 : G.ar 9 = 3) : S_meeting (mkB G c_meeting_of N_meeting_of.length) := by
  intro ws w i j mu h hi hj
  have key := mkB_at (G := G) (c := c_meeting_of) (n := N_meeting_of.length) (ds := [tI ws, .int w, .int (i : Int), .int (j : Int)]) (mu := mu) (Post := fun d mu' => ∃ m, d = meetD ws.length m ∧ mu' = mu ∧ IsMeet ws w i j m) ?_
  · obtain ⟨d, mu', h1, m, rfl, rfl, h2⟩ := key
    exact ⟨m, h1, h2⟩
  · simp [c_meeting_of, N_meeting_of, startE]
    refine wp_whl (fun m rho mu' => ∃ a b : Nat, rho = [some (.dat (tI ws)), some (.dat (.int w)), some (.dat (.int (a : Int))), some (.dat (.int (b : Int)))] ∧ mu' = mu ∧ m = (ws.length - a) + (ws.length - b) ∧ a ≤ ws.length ∧ b ≤ ws.length ∧ ∀ m, IsMeet ws w a b m → IsMeet ws w i j m) ?_ ?_
    · exact ⟨_, i, j, rfl, rfl, rfl, by omega, by omega, fun _ h => h⟩
    · rintro m rho mu' ⟨a, b, rfl, rfl, rfl, ha, hb, hm⟩
      by_cases e : a = b
      · subst e
        have hmm := hm a ⟨.self h ha, .self h ha, fun k q _ => q.ge h ha⟩
        by_cases hl : a < ws.length
        · simp [tI, hl]
          exact ⟨a, by simp [meetD, hl], hmm⟩
        · simp [tI, hl]
          exact ⟨a, by simp [meetD, hl], hmm⟩
      · have e' : ¬ ((a : Int) = (b : Int)) := by omega
        have hlt : min a b < ws.length := by omega
        have hn := nxt_gt h hlt
        have hn2 := nxt_le h hlt
        have hc := callD_at (G := G) (mu := mu') h9 (ds := [tI ws, .int w, .int ((min a b : Nat) : Int)]) a9.symm (at_next_index h hlt)
        have hmin : ((min a b : Nat) : Int) = min (a : Int) (b : Int) := by omega
        rw [hmin] at hc
        simp [e', hc]
        refine ⟨_, ?_, nxt ws w (min a b), max a b, ⟨rfl, by omega⟩, rfl, hn2, by omega, fun m hm' => hm m ?_⟩
        · omega
        · by_cases q : a < b
          · rw [show min a b = a by omega, show max a b = b by omega] at hm'
            exact hm'.step h q hb
          · rw [show min a b = b by omega, show max a b = a by omega] at hm'
            exact (hm'.step h (by omega) ha).symm
theorem ok_meeting (G : Gam) {Fm : Fn} (h5 : G.fn 5 = some F_check_text) (a5 : G.ar 5 = 2) (h6 : G.fn 6 = some F_check_index) (a6 : G.ar 6 = 2) (h36 : G.fn 36 = some Fm) (a36 : G.ar 36 = 4) (hm : S_meeting Fm) : S_meeting (mkB G c_meeting N_meeting.length) := by
  intro ws w i j mu h hi hj
  obtain ⟨m, f1, f2⟩ := hm ws w i j mu h hi hj
  have key := mkB_at (G := G) (c := c_meeting) (n := N_meeting.length) (ds := [tI ws, .int w, .int (i : Int), .int (j : Int)]) (mu := mu) (Post := fun d mu' => d = meetD ws.length m ∧ mu' = mu) ?_
  · obtain ⟨d, mu', h1, rfl, rfl⟩ := key
    exact ⟨m, h1, f2⟩
  · have c5 := callD_at (G := G) (mu := mu) h5 (ds := [tI ws, .int w]) a5.symm (at_check_text h)
    have c6 := callD_at (G := G) (mu := mu) h6 (ds := [tI ws, .int (i : Int)]) a6.symm (at_check_index hi)
    have c7 := callD_at (G := G) (mu := mu) h6 (ds := [tI ws, .int (j : Int)]) a6.symm (at_check_index hj)
    have c36 := callD_at (G := G) (mu := mu) h36 (ds := [tI ws, .int w, .int (i : Int), .int (j : Int)]) a36.symm f1
    simp [c_meeting, N_meeting, startE, c5, c6, c7, c36]
end Lin

set_option maxHeartbeats 1000000
/-! Laws: loops, rows of line starts. -/
namespace Lin
open PySem PySem.Spec

/-- a for loop by what holds of what is left -/
theorem wp_for {G : Gam} {tg : T} {b : Cm} {D : DE} (I : List Dat → Env → Store → Prop) (h : ∀ x xs rho mu, I (x :: xs) rho mu → ∃ rho1, bindT tg x rho = some rho1 ∧ ∀ D' : DE, (∀ r m, I xs r m → D'.nx r m) → (∀ r m, I xs r m → D'.ct r m) → D'.rt = D.rt → D'.bk = D.nx → wpS G b D' rho1 mu)
    (he : ∀ rho mu, I [] rho mu → D.nx rho mu) : ∀ xs rho mu, I xs rho mu → wFor tg (fun D' => wpS G b D') D xs rho mu
  | [], rho, mu, i => he rho mu i
  | x :: xs, rho, mu, i => by
    obtain ⟨rho1, h1, h2⟩ := h x xs rho mu i
    exact ⟨rho1, h1, h2 { nx := wFor tg (fun D' => wpS G b D') D xs, rt := D.rt, ct := wFor tg (fun D' => wpS G b D') D xs, bk := D.nx } (wp_for I h he xs) (wp_for I h he xs) rfl rfl⟩
theorem cut_1 {α : Type} (xs : List α) : cut xs (some 1) none = xs.drop 1 := cut_from xs 1
/-- numbers from k on -/
theorem range_from {k n : Nat} (h : k < n) : (List.range n).drop k = k :: (List.range n).drop (k + 1) := by
  rw [List.drop_eq_getElem_cons (by simpa using h)]
  simp
theorem rangeD_from (lo : Int) {k n : Nat} (h : k < n) : (rangeD lo n).drop k = .int (lo + (k : Int)) :: (rangeD lo n).drop (k + 1) := by
  unfold rangeD
  rw [← List.map_drop, range_from h, List.map_cons, List.map_drop]
theorem lc_none {bind : Dat → Option Env} {tst : Env → Store → Option (Bool × Store)} {elt : Env → Store → Option (Dat × Store)} {mu : Store} : ∀ {xs : List Dat}, (∀ x ∈ xs, ∃ rho, bind x = some rho ∧ tst rho mu = some (false, mu)) → lcGo bind tst elt xs mu = some ([], mu)
  | [], _ => rfl
  | x :: xs, h => by
    obtain ⟨rho, h1, h2⟩ := h x List.mem_cons_self
    unfold lcGo
    rw [h1]
    simp only [h2]
    exact lc_none fun y hy => h y (List.mem_cons_of_mem _ hy)
/-- a comprehension that keeps some -/
theorem lc_filter {bind : Dat → Option Env} {tst : Env → Store → Option (Bool × Store)} {elt : Env → Store → Option (Dat × Store)} {mu : Store} (f : Dat → Dat) (p : Dat → Bool) : ∀ {xs : List Dat}, (∀ x ∈ xs, ∃ rho, bind x = some rho ∧ tst rho mu = some (p x, mu) ∧ elt rho mu = some (f x, mu)) → lcGo bind tst elt xs mu = some ((xs.filter p).map f, mu)
  | [], _ => rfl
  | x :: xs, h => by
    obtain ⟨rho, h1, h2, h3⟩ := h x List.mem_cons_self
    have ih := lc_filter f p (xs := xs) fun y hy => h y (List.mem_cons_of_mem _ hy)
    unfold lcGo
    rw [h1]
    cases hp : p x with
    | true => simp [h2, h3, ih, hp]
    | false => simp [h2, ih, hp]
@[simp] theorem xc_memI (rho : Env) (mu : Store) (i : Int) (ns : List Int) : cmpD rho mu .mem (.dat (.int i)) (.dat (.tup (ns.map .int))) = some (decide (i ∈ ns)) := by
  show memD rho mu (.dat (.int i)) (.dat (.tup (ns.map .int))) = _
  unfold memD
  simp
@[simp] theorem xc_nmemI (rho : Env) (mu : Store) (i : Int) (ns : List Int) : cmpD rho mu .nmem (.dat (.int i)) (.dat (.tup (ns.map .int))) = some (!decide (i ∈ ns)) := by
  show (memD rho mu (.dat (.int i)) (.dat (.tup (ns.map .int)))).map (!·) = _
  unfold memD
  simp
theorem mem_nI {x : Nat} {xs : List Nat} : (x : Int) ∈ nI xs ↔ x ∈ xs := by
  unfold nI
  rw [List.mem_map]
  constructor
  · rintro ⟨y, h1, h2⟩
    have h2' : (y : Int) = x := h2
    have : y = x := by omega
    rw [← this]; exact h1
  · exact fun h => ⟨x, h, rfl⟩
/-- the row of starts from i -/
def row (ws : List Int) (w : Int) (i : Nat) : Dat := tI (nI (starts ws w i))
def rows (ws : List Int) (w : Int) : Dat := .lst ((List.range ws.length).map (row ws w))
theorem rows_at {ws : List Int} {w : Int} {i : Nat} (h : i < ws.length) : at? ((List.range ws.length).map (row ws w)) (i : Int) = some (row ws w i) := at_nat (by simp [h])
/-- the pairs of one and another row -/
theorem pairs_le {ws : List Int} {w : Int} (h : VX ws w) {i j : Nat} (hij : i ≤ j) : ∀ d ∈ zipD ((nI (starts ws w i)).map .int) ((nI (starts ws w j)).map .int), ∃ x y : Int, d = .tup [.int x, .int y] ∧ x ≤ y := by
  intro d hd
  obtain ⟨k, hk⟩ := List.getElem?_of_mem hd
  obtain ⟨a, b, rfl, h1, h2⟩ := zipD_get hk
  rw [List.getElem?_map] at h1 h2
  unfold nI at h1 h2
  rw [List.getElem?_map] at h1 h2
  cases e1 : (starts ws w i)[k]? with
  | none => rw [e1] at h1; simp at h1
  | some x =>
    cases e2 : (starts ws w j)[k]? with
    | none => rw [e2] at h2; simp at h2
    | some y =>
      rw [e1] at h1
      rw [e2] at h2
      simp at h1 h2
      subst h1 h2
      exact ⟨x, y, rfl, by have := zip_le h _ i j rfl hij k x y e1 e2; omega⟩
theorem lc_range {bind : Dat → Option Env} {tst : Env → Store → Option (Bool × Store)} {elt : Env → Store → Option (Dat × Store)} {mu : Store} {n : Nat} (f : Nat → Dat) (h : ∀ i : Nat, i < n → ∃ rho, bind (.int (i : Int)) = some rho ∧ tst rho mu = some (true, mu) ∧ elt rho mu = some (f i, mu)) :
    lcGo bind tst elt (rangeD 0 n) mu = some ((List.range n).map f, mu) := by
  have e : rangeD 0 n = (List.range n).map fun i => .int ((i : Nat) : Int) := rangeD_eq n
  have h2 := lc_plain (bind := bind) (tst := tst) (elt := elt) (mu := mu) (fun x => match x with | .int i => f i.toNat | _ => .non) (xs := rangeD 0 n) fun x hx => by
    rw [e] at hx
    obtain ⟨i, hi, rfl⟩ := List.mem_map.mp hx
    obtain ⟨rho, h1, h2, h3⟩ := h i (List.mem_range.mp hi)
    exact ⟨rho, h1, h2, by simpa using h3⟩
  rw [h2, e, List.map_map]
  rfl
/-- a test that fails -/
theorem wp_skip {G : Gam} {t : E} {a b : Cm} {D : DE} {rho : Env} {mu : Store} (h : ev G t rho mu = some (.dat (.bl false), mu)) (h2 : wpS G b D rho mu) : wpS G (.seq (.ite t a .nil) b) D rho mu := by
  simp [h, h2]
/-- a datum is stored -/
theorem wp_put {G : Gam} {e : E} {i : Nat} {b : Cm} {D : DE} {rho : Env} {mu mu1 : Store} {d : Dat} (h : ev G e rho mu = some (.dat d, mu1)) (h2 : wpS G b D (rho.set i (some (.dat d))) mu1) : wpS G (.seq (.asg i (.dat e)) b) D rho mu := by
  simp [h, h2]
end Lin

set_option maxHeartbeats 1000000
/-! Specs, part H: a law's own lines; same; the loop over the bags. -/
namespace Lin
open PySem PySem.Spec

theorem goTo_bnd (a : Nat → Int) (lim : Int) : ∀ f j, j ≤ goTo a lim f j ∧ goTo a lim f j ≤ j + f
  | 0, j => ⟨Nat.le_refl _, Nat.le_refl _⟩
  | f + 1, j => by
    unfold goTo
    split
    · have := goTo_bnd a lim f (j + 1); omega
    · omega
theorem nxt_gt0 (ws : List Int) (w : Int) (i : Nat) : i < nxt ws w i := (goTo_bnd _ _ _ _).1
theorem nxt_le0 {ws : List Int} {w : Int} {i : Nat} (h : i < ws.length) : nxt ws w i ≤ ws.length := by
  have := (goTo_bnd (wd ws) (pre (wd ws) i + w + 1) (ws.length - (i + 1)) (i + 1)).2
  unfold nxt
  omega
theorem starts_at0 {ws : List Int} {w : Int} {i : Nat} (hi : i < ws.length) : starts ws w i = i :: starts ws w (nxt ws w i) := by
  unfold starts
  rw [chain_fuel (fun i hi => nxt_gt0 ws w i) ws.length (ws.length + 1) i (by omega) (by omega)]
  show (if i < ws.length then _ else _) = _
  rw [if_pos hi]
theorem sum_cut {ws : List Int} {i : Nat} : ∀ d, i + d ≤ ws.length → ((ws.drop i).take d).sum = pre (wd ws) (i + d) - pre (wd ws) i - d
  | 0, _ => by simp
  | d + 1, h => by
    have ih := sum_cut (ws := ws) (i := i) d (by omega)
    have e : (ws.drop i)[d]? = some (wd ws (i + d)) := by
      rw [List.getElem?_drop]
      unfold wd
      rw [List.getD_eq_getElem?_getD, List.getElem?_eq_getElem (by omega)]
      rfl
    rw [List.take_add_one, e, List.sum_append, ih]
    have e2 : pre (wd ws) (i + (d + 1)) = pre (wd ws) (i + d) + wd ws (i + d) + 1 := rfl
    rw [e2]
    simp
    omega
/-- the words from i up to j -/
def seg {α : Type} (ws : List α) (i j : Nat) : List α := (ws.drop i).take (j - i)
theorem cut_map {ws : List Int} {i j : Nat} (h : i ≤ j) (hj : j ≤ ws.length) : cut (ws.map Dat.int) (some (i : Int)) (some (j : Int)) = (seg ws i j).map .int := by
  unfold seg
  rw [cut_mid _ _ _ h (by rw [List.length_map]; exact hj), ← List.map_drop, ← List.map_take]
theorem sum_seg {ws : List Int} {i j : Nat} (h : i ≤ j) (hj : j ≤ ws.length) : (seg ws i j).sum = pre (wd ws) j - pre (wd ws) i - ((j : Int) - i) := by
  have h2 := sum_cut (ws := ws) (i := i) (j - i) (by omega)
  rw [show i + (j - i) = j by omega] at h2
  unfold seg
  rw [h2]
  omega
theorem xb_sumT {rho : Env} {mu : Store} (ns : List Int) : bltD rho mu .sum [.dat (.tup (ns.map .int))] = some (.int ns.sum) := xb_sum rfl
theorem xb_sumL {rho : Env} {mu : Store} (ns : List Int) : bltD rho mu .sum [.dat (.lst (ns.map .int))] = some (.int ns.sum) := xb_sum rfl
def S_fit (F : Fn) : Prop := ∀ (ws : List Int) (w : Int) (s e : Nat) (mu : Store), s ≤ e → e ≤ ws.length → F [tI ws, .int w, .int (s : Int), .int (e : Int)] mu = some (.ok (.bl (decide (pre (wd ws) e ≤ pre (wd ws) s + w + 1))) mu)
theorem S_of {G : Gam} {c : Cm} {n : Nat} {ds : List Dat} {mu : Store} {d : Dat} (h : wpS G c { nx := fun _ u => d = .non ∧ u = mu, rt := fun d' u => d' = d ∧ u = mu } (startE n ds) mu) : mkB G c n ds mu = some (.ok d mu) := by
  obtain ⟨d', mu', h1, h2, h3⟩ := mkB_at (Post := fun d' u => d' = d ∧ u = mu) (wp_mono G h fun o h => by
    cases o with
    | nx r u => exact ⟨h.1.symm, h.2⟩
    | _ => exact h)
  rw [h1, h2, h3]
theorem ok_fit (G : Gam) : S_fit (mkB G c_law_fit N_law_fit.length) := by
  intro ws w s e mu hs he
  refine S_of ?_
  have h2 := sum_seg hs he
  simp only [c_law_fit, N_law_fit, startE, tI]
  simp [cut_map hs he, xb_sumT]
  rw [h2]
  constructor <;> intro h <;> omega
def S_end (F : Fn) : Prop := ∀ (ws : List Int) (w : Int) (s : Nat) (mu : Store), s < ws.length → F [tI ws, .int w, .int (s : Int)] mu = some (.ok (.int (nxt ws w s : Nat)) mu)
theorem ok_end (G : Gam) {Ff : Fn} (h72 : G.fn 72 = some Ff) (a72 : G.ar 72 = 4) (hf : S_fit Ff) : S_end (mkB G c_law_end N_law_end.length) := by
  intro ws w s mu hs
  refine S_of ?_
  simp only [c_law_end, N_law_end, startE]
  simp
  refine wp_whl (fun m rho mu' => ∃ j : Nat, rho = [some (.dat (tI ws)), some (.dat (.int w)), some (.dat (.int (s : Int))), some (.dat (.int (j : Int)))] ∧ mu' = mu ∧ m = ws.length - j ∧ s < j ∧ j ≤ ws.length ∧ goTo (wd ws) (pre (wd ws) s + w + 1) (ws.length - j) j = nxt ws w s) ?_ ?_
  · exact ⟨_, s + 1, by simp, rfl, rfl, by omega, by omega, rfl⟩
  · rintro m rho mu' ⟨j, rfl, rfl, rfl, hij, hj, hg⟩
    by_cases hl : j < ws.length
    · have hc := callD_at (G := G) (mu := mu') h72 (ds := [tI ws, .int w, .int (s : Int), .int ((j + 1 : Nat) : Int)]) a72.symm (hf ws w s (j + 1) mu' (by omega) (by omega))
      rw [Int.natCast_add] at hc
      obtain ⟨f, hfu⟩ : ∃ f, ws.length - j = f + 1 := ⟨ws.length - j - 1, by omega⟩
      rw [hfu] at hg
      unfold goTo at hg
      simp only [tI] at hc
      by_cases hq : pre (wd ws) (j + 1) ≤ pre (wd ws) s + w + 1
      · rw [if_pos hq] at hg
        simp [hq] at hc
        simp [tI, hl, hc]
        exact ⟨_, by omega, j + 1, by simp, rfl, by omega, by omega, by rw [← hg]; congr 1; omega⟩
      · rw [if_neg hq] at hg
        simp [hq] at hc
        simp [tI, hl, hc]
        omega
    · rw [show ws.length - j = 0 by omega] at hg
      have hg' : j = nxt ws w s := hg
      simp [tI, hl]
      omega
def S_greedy (F : Fn) : Prop := ∀ (ws : List Int) (w : Int) (s : Nat) (mu : Store), ws.length < cap → s ≤ ws.length → F [tI ws, .int w, .int (s : Int)] mu = some (.ok (tI (nI (starts ws w s))) mu)
theorem ok_greedy (G : Gam) {Fe : Fn} (h73 : G.fn 73 = some Fe) (a73 : G.ar 73 = 3) (hf : S_end Fe) : S_greedy (mkB G c_law_greedy N_law_greedy.length) := by
  intro ws w s mu hcp hs
  refine S_of ?_
  simp only [c_law_greedy, N_law_greedy, startE]
  simp
  refine wp_whl (fun m rho mu' => ∃ (j : Nat) (acc : List Nat), rho = [some (.dat (tI ws)), some (.dat (.int w)), some (.dat (.int (j : Int))), some (.own (.lst ((nI acc).map .int)))] ∧ mu' = mu ∧ m = ws.length - j ∧ j ≤ ws.length ∧ acc.length ≤ j ∧ starts ws w s = acc ++ starts ws w j) ?_ ?_
  · exact ⟨_, s, [], rfl, rfl, rfl, hs, by simp, rfl⟩
  · rintro m rho mu' ⟨j, acc, rfl, rfl, rfl, hj, hacc, hst⟩
    by_cases hl : j < ws.length
    · have hc := callD_at (G := G) (mu := mu') h73 (ds := [tI ws, .int w, .int (j : Int)]) a73.symm (hf ws w j mu' hl)
      have hcap : acc.length < cap := by omega
      have hn := nxt_gt0 ws w j
      have hn2 := nxt_le0 (w := w) hl
      simp [tI, hl, cellAt, putCell, nI_len, hcap]
      simp [tI] at hc
      simp [hc]
      refine ⟨_, ?_, nxt ws w j, acc ++ [j], ⟨rfl, ?_⟩, rfl, hn2, ?_, ?_⟩
      · omega
      · simp [nI]
      · simp; omega
      · rw [hst, starts_at0 hl]; simp
    · have hj2 : ws.length ≤ j := by omega
      rw [starts_end hj2, List.append_nil] at hst
      simp [tI, hl, hst]

/-! ### same -/
mutual
def okS : Nat → Dat → Bool
  | _, .non => true
  | _, .bl _ => true
  | _, .int _ => true
  | _, .str x => PySem.PyData.strOk x
  | k + 1, .tup xs => decide (xs.length ≤ cap) && okSs k xs
  | k + 1, .lst xs => decide (xs.length ≤ cap) && okSs k xs
  | _, _ => false
def okSs : Nat → List Dat → Bool
  | _, [] => true
  | k, x :: xs => okS k x && okSs k xs
end
theorem okSs_mem : ∀ {k : Nat} {xs : List Dat}, okSs k xs = true → ∀ x ∈ xs, okS k x = true
  | _, [], _, x, h => by cases h
  | k, y :: ys, h, x, hx => by
    rw [okSs, Bool.and_eq_true] at h
    rcases List.mem_cons.mp hx with e | e
    · rw [e]; exact h.1
    · exact okSs_mem h.2 x e
theorem okSs_of {k : Nat} : ∀ {xs : List Dat}, (∀ x ∈ xs, okS k x = true) → okSs k xs = true
  | [], _ => by rw [okSs]
  | y :: ys, h => by rw [okSs, h y List.mem_cons_self, okSs_of fun x hx => h x (List.mem_cons_of_mem _ hx)]; rfl
theorem zipD_self : ∀ {xs : List Dat} {d : Dat}, d ∈ zipD xs xs → ∃ x ∈ xs, d = .tup [x, x]
  | [], d, h => by cases h
  | x :: xs, d, h => by
    rcases List.mem_cons.mp h with e | e
    · exact ⟨x, List.mem_cons_self, e⟩
    · obtain ⟨y, h1, h2⟩ := zipD_self e
      exact ⟨y, List.mem_cons_of_mem _ h1, h2⟩
def S_same (k : Nat) (F : Fn) : Prop := ∀ (d : Dat) (mu : Store), okS k d = true → F [d, d] mu = some (.ok (.bl true) mu)
theorem eqD_bl (b : Bool) : eqD (.bl b) (.bl b) = some true := by
  unfold eqD
  simp [pd, PyData.depth, PyData.eqv]
theorem eqD_str {x : Str} (h : PySem.PyData.strOk x = true) : eqD (.str x) (.str x) = some true := by
  unfold eqD
  simp [pd, h, PyData.depth, PyData.eqv]
theorem same_flat {G : Gam} {d : Dat} {mu : Store} (h : okS 0 d = true) : mkB G c_law_same N_law_same.length [d, d] mu = some (.ok (.bl true) mu) := by
  refine S_of ?_
  cases d with
  | str x =>
    have hx : PySem.PyData.strOk x = true := by simpa [okS] using h
    simp [c_law_same, N_law_same, startE, isK, isKs, eqD_str hx]
  | bl b => simp [c_law_same, N_law_same, startE, isK, isKs, eqD_bl]
  | tup _ => simp [okS] at h
  | lst _ => simp [okS] at h
  | ref _ => simp [okS] at h
  | fn _ => simp [okS] at h
  | _ => simp [c_law_same, N_law_same, startE, isK, isKs, isNon]
theorem ok_same0 (G : Gam) : S_same 0 (mkB G c_law_same N_law_same.length) := fun d mu h => same_flat h
theorem okS_flat {k : Nat} {d : Dat} (h : okS k d = true) (h1 : ∀ xs, d ≠ .tup xs) (h2 : ∀ xs, d ≠ .lst xs) : okS 0 d = true := by
  cases d with
  | tup xs => exact absurd rfl (h1 xs)
  | lst xs => exact absurd rfl (h2 xs)
  | ref _ => cases k <;> simp [okS] at h
  | fn _ => cases k <;> simp [okS] at h
  | str x => cases k <;> simpa [okS] using h
  | _ => simp [okS]
theorem ok_sameS (G : Gam) {k : Nat} {F : Fn} (h54 : G.fn 54 = some F) (a54 : G.ar 54 = 2) (hs : S_same k F) : S_same (k + 1) (mkB G c_law_same N_law_same.length) := by
  have key : ∀ xs : List Dat, okSs k xs = true → ∀ mu, lcGo (fun x => bindT (.tup (.cons (.nm 2) (.cons (.nm 3) .nil))) x [some (.dat (.tup xs)), some (.dat (.tup xs)), none, none]) (fun rho' mu' => some (true, mu')) (fun rho' mu' => bdD (ev G (.call 54 (.acons (.var 2) (.acons (.var 3) .anil))) rho' mu') fun d mu2 => some (d, mu2)) (zipD xs xs) mu = some ((zipD xs xs).map fun _ => .bl true, mu) := by
    intro xs hx mu
    refine lc_plain (fun _ => .bl true) fun d hd => ?_
    obtain ⟨y, hy, rfl⟩ := zipD_self hd
    have hc := callD_at (G := G) (mu := mu) h54 (ds := [y, y]) a54.symm (hs y mu (okSs_mem hx y hy))
    exact ⟨_, rfl, rfl, by simp [hc]⟩
  have key2 : ∀ xs : List Dat, okSs k xs = true → ∀ mu, lcGo (fun x => bindT (.tup (.cons (.nm 2) (.cons (.nm 3) .nil))) x [some (.dat (.lst xs)), some (.dat (.lst xs)), none, none]) (fun rho' mu' => some (true, mu')) (fun rho' mu' => bdD (ev G (.call 54 (.acons (.var 2) (.acons (.var 3) .anil))) rho' mu') fun d mu2 => some (d, mu2)) (zipD xs xs) mu = some ((zipD xs xs).map fun _ => .bl true, mu) := by
    intro xs hx mu
    refine lc_plain (fun _ => .bl true) fun d hd => ?_
    obtain ⟨y, hy, rfl⟩ := zipD_self hd
    have hc := callD_at (G := G) (mu := mu) h54 (ds := [y, y]) a54.symm (hs y mu (okSs_mem hx y hy))
    exact ⟨_, rfl, rfl, by simp [hc]⟩
  have hall : ∀ (xs : List Dat) rho mu, bltD rho mu .all [.dat (.lst (xs.map fun _ => Dat.bl true))] = some (.bl true) := fun xs rho mu => by
    rw [show (xs.map fun _ => Dat.bl true) = (xs.map fun _ => true).map .bl by rw [List.map_map]; rfl, xb_all]
    simp
  intro d mu h
  cases d with
  | tup xs =>
    rw [okS, Bool.and_eq_true, decide_eq_true_eq] at h
    have hz : (zipD xs xs).length ≤ cap := by rw [zipD_len]; omega
    refine S_of ?_
    have k1 := key xs h.2 mu
    simp at k1
    simp [c_law_same, N_law_same, startE, isK, hz, wipeE]
    rw [k1]
    simp [hall]
  | lst xs =>
    rw [okS, Bool.and_eq_true, decide_eq_true_eq] at h
    have hz : (zipD xs xs).length ≤ cap := by rw [zipD_len]; omega
    refine S_of ?_
    have k1 := key2 xs h.2 mu
    simp at k1
    simp [c_law_same, N_law_same, startE, isK, hz, wipeE]
    rw [k1]
    simp [hall]
  | _ => exact same_flat (okS_flat h (fun _ e => nomatch e) (fun _ e => nomatch e))
end Lin

set_option maxHeartbeats 1000000
/-! Laws, part B: the loop over the bags; loops and what follows them; slots by their number. -/
namespace Lin
open PySem PySem.Spec

theorem len0 {α : Type} {s : List α} (h : s.length = 0) : s = [] := by
  match s, h with
  | [], _ => exact rfl
theorem len1 {α : Type} {s : List α} (h : s.length = 1) : ∃ a0, s = [a0] := by
  match s, h with
  | [a0], _ => exact ⟨a0, rfl⟩
theorem len2 {α : Type} {s : List α} (h : s.length = 2) : ∃ a0 a1, s = [a0, a1] := by
  match s, h with
  | [a0, a1], _ => exact ⟨a0, a1, rfl⟩
theorem len3 {α : Type} {s : List α} (h : s.length = 3) : ∃ a0 a1 a2, s = [a0, a1, a2] := by
  match s, h with
  | [a0, a1, a2], _ => exact ⟨a0, a1, a2, rfl⟩
theorem len4 {α : Type} {s : List α} (h : s.length = 4) : ∃ a0 a1 a2 a3, s = [a0, a1, a2, a3] := by
  match s, h with
  | [a0, a1, a2, a3], _ => exact ⟨a0, a1, a2, a3, rfl⟩
theorem len5 {α : Type} {s : List α} (h : s.length = 5) : ∃ a0 a1 a2 a3 a4, s = [a0, a1, a2, a3, a4] := by
  match s, h with
  | [a0, a1, a2, a3, a4], _ => exact ⟨a0, a1, a2, a3, a4, rfl⟩
theorem len6 {α : Type} {s : List α} (h : s.length = 6) : ∃ a0 a1 a2 a3 a4 a5, s = [a0, a1, a2, a3, a4, a5] := by
  match s, h with
  | [a0, a1, a2, a3, a4, a5], _ => exact ⟨a0, a1, a2, a3, a4, a5, rfl⟩
theorem len7 {α : Type} {s : List α} (h : s.length = 7) : ∃ a0 a1 a2 a3 a4 a5 a6, s = [a0, a1, a2, a3, a4, a5, a6] := by
  match s, h with
  | [a0, a1, a2, a3, a4, a5, a6], _ => exact ⟨a0, a1, a2, a3, a4, a5, a6, rfl⟩
theorem len8 {α : Type} {s : List α} (h : s.length = 8) : ∃ a0 a1 a2 a3 a4 a5 a6 a7, s = [a0, a1, a2, a3, a4, a5, a6, a7] := by
  match s, h with
  | [a0, a1, a2, a3, a4, a5, a6, a7], _ => exact ⟨a0, a1, a2, a3, a4, a5, a6, a7, rfl⟩
theorem len9 {α : Type} {s : List α} (h : s.length = 9) : ∃ a0 a1 a2 a3 a4 a5 a6 a7 a8, s = [a0, a1, a2, a3, a4, a5, a6, a7, a8] := by
  match s, h with
  | [a0, a1, a2, a3, a4, a5, a6, a7, a8], _ => exact ⟨a0, a1, a2, a3, a4, a5, a6, a7, a8, rfl⟩
theorem len10 {α : Type} {s : List α} (h : s.length = 10) : ∃ a0 a1 a2 a3 a4 a5 a6 a7 a8 a9, s = [a0, a1, a2, a3, a4, a5, a6, a7, a8, a9] := by
  match s, h with
  | [a0, a1, a2, a3, a4, a5, a6, a7, a8, a9], _ => exact ⟨a0, a1, a2, a3, a4, a5, a6, a7, a8, a9, rfl⟩
theorem len11 {α : Type} {s : List α} (h : s.length = 11) : ∃ a0 a1 a2 a3 a4 a5 a6 a7 a8 a9 a10, s = [a0, a1, a2, a3, a4, a5, a6, a7, a8, a9, a10] := by
  match s, h with
  | [a0, a1, a2, a3, a4, a5, a6, a7, a8, a9, a10], _ => exact ⟨a0, a1, a2, a3, a4, a5, a6, a7, a8, a9, a10, rfl⟩
theorem len12 {α : Type} {s : List α} (h : s.length = 12) : ∃ a0 a1 a2 a3 a4 a5 a6 a7 a8 a9 a10 a11, s = [a0, a1, a2, a3, a4, a5, a6, a7, a8, a9, a10, a11] := by
  match s, h with
  | [a0, a1, a2, a3, a4, a5, a6, a7, a8, a9, a10, a11], _ => exact ⟨a0, a1, a2, a3, a4, a5, a6, a7, a8, a9, a10, a11, rfl⟩
theorem len13 {α : Type} {s : List α} (h : s.length = 13) : ∃ a0 a1 a2 a3 a4 a5 a6 a7 a8 a9 a10 a11 a12, s = [a0, a1, a2, a3, a4, a5, a6, a7, a8, a9, a10, a11, a12] := by
  match s, h with
  | [a0, a1, a2, a3, a4, a5, a6, a7, a8, a9, a10, a11, a12], _ => exact ⟨a0, a1, a2, a3, a4, a5, a6, a7, a8, a9, a10, a11, a12, rfl⟩
theorem len14 {α : Type} {s : List α} (h : s.length = 14) : ∃ a0 a1 a2 a3 a4 a5 a6 a7 a8 a9 a10 a11 a12 a13, s = [a0, a1, a2, a3, a4, a5, a6, a7, a8, a9, a10, a11, a12, a13] := by
  match s, h with
  | [a0, a1, a2, a3, a4, a5, a6, a7, a8, a9, a10, a11, a12, a13], _ => exact ⟨a0, a1, a2, a3, a4, a5, a6, a7, a8, a9, a10, a11, a12, a13, rfl⟩
theorem len15 {α : Type} {s : List α} (h : s.length = 15) : ∃ a0 a1 a2 a3 a4 a5 a6 a7 a8 a9 a10 a11 a12 a13 a14, s = [a0, a1, a2, a3, a4, a5, a6, a7, a8, a9, a10, a11, a12, a13, a14] := by
  match s, h with
  | [a0, a1, a2, a3, a4, a5, a6, a7, a8, a9, a10, a11, a12, a13, a14], _ => exact ⟨a0, a1, a2, a3, a4, a5, a6, a7, a8, a9, a10, a11, a12, a13, a14, rfl⟩
theorem len16 {α : Type} {s : List α} (h : s.length = 16) : ∃ a0 a1 a2 a3 a4 a5 a6 a7 a8 a9 a10 a11 a12 a13 a14 a15, s = [a0, a1, a2, a3, a4, a5, a6, a7, a8, a9, a10, a11, a12, a13, a14, a15] := by
  match s, h with
  | [a0, a1, a2, a3, a4, a5, a6, a7, a8, a9, a10, a11, a12, a13, a14, a15], _ => exact ⟨a0, a1, a2, a3, a4, a5, a6, a7, a8, a9, a10, a11, a12, a13, a14, a15, rfl⟩
theorem len17 {α : Type} {s : List α} (h : s.length = 17) : ∃ a0 a1 a2 a3 a4 a5 a6 a7 a8 a9 a10 a11 a12 a13 a14 a15 a16, s = [a0, a1, a2, a3, a4, a5, a6, a7, a8, a9, a10, a11, a12, a13, a14, a15, a16] := by
  match s, h with
  | [a0, a1, a2, a3, a4, a5, a6, a7, a8, a9, a10, a11, a12, a13, a14, a15, a16], _ => exact ⟨a0, a1, a2, a3, a4, a5, a6, a7, a8, a9, a10, a11, a12, a13, a14, a15, a16, rfl⟩
theorem len18 {α : Type} {s : List α} (h : s.length = 18) : ∃ a0 a1 a2 a3 a4 a5 a6 a7 a8 a9 a10 a11 a12 a13 a14 a15 a16 a17, s = [a0, a1, a2, a3, a4, a5, a6, a7, a8, a9, a10, a11, a12, a13, a14, a15, a16, a17] := by
  match s, h with
  | [a0, a1, a2, a3, a4, a5, a6, a7, a8, a9, a10, a11, a12, a13, a14, a15, a16, a17], _ => exact ⟨a0, a1, a2, a3, a4, a5, a6, a7, a8, a9, a10, a11, a12, a13, a14, a15, a16, a17, rfl⟩
theorem len19 {α : Type} {s : List α} (h : s.length = 19) : ∃ a0 a1 a2 a3 a4 a5 a6 a7 a8 a9 a10 a11 a12 a13 a14 a15 a16 a17 a18, s = [a0, a1, a2, a3, a4, a5, a6, a7, a8, a9, a10, a11, a12, a13, a14, a15, a16, a17, a18] := by
  match s, h with
  | [a0, a1, a2, a3, a4, a5, a6, a7, a8, a9, a10, a11, a12, a13, a14, a15, a16, a17, a18], _ => exact ⟨a0, a1, a2, a3, a4, a5, a6, a7, a8, a9, a10, a11, a12, a13, a14, a15, a16, a17, a18, rfl⟩
theorem len20 {α : Type} {s : List α} (h : s.length = 20) : ∃ a0 a1 a2 a3 a4 a5 a6 a7 a8 a9 a10 a11 a12 a13 a14 a15 a16 a17 a18 a19, s = [a0, a1, a2, a3, a4, a5, a6, a7, a8, a9, a10, a11, a12, a13, a14, a15, a16, a17, a18, a19] := by
  match s, h with
  | [a0, a1, a2, a3, a4, a5, a6, a7, a8, a9, a10, a11, a12, a13, a14, a15, a16, a17, a18, a19], _ => exact ⟨a0, a1, a2, a3, a4, a5, a6, a7, a8, a9, a10, a11, a12, a13, a14, a15, a16, a17, a18, a19, rfl⟩
theorem len21 {α : Type} {s : List α} (h : s.length = 21) : ∃ a0 a1 a2 a3 a4 a5 a6 a7 a8 a9 a10 a11 a12 a13 a14 a15 a16 a17 a18 a19 a20, s = [a0, a1, a2, a3, a4, a5, a6, a7, a8, a9, a10, a11, a12, a13, a14, a15, a16, a17, a18, a19, a20] := by
  match s, h with
  | [a0, a1, a2, a3, a4, a5, a6, a7, a8, a9, a10, a11, a12, a13, a14, a15, a16, a17, a18, a19, a20], _ => exact ⟨a0, a1, a2, a3, a4, a5, a6, a7, a8, a9, a10, a11, a12, a13, a14, a15, a16, a17, a18, a19, a20, rfl⟩
theorem len22 {α : Type} {s : List α} (h : s.length = 22) : ∃ a0 a1 a2 a3 a4 a5 a6 a7 a8 a9 a10 a11 a12 a13 a14 a15 a16 a17 a18 a19 a20 a21, s = [a0, a1, a2, a3, a4, a5, a6, a7, a8, a9, a10, a11, a12, a13, a14, a15, a16, a17, a18, a19, a20, a21] := by
  match s, h with
  | [a0, a1, a2, a3, a4, a5, a6, a7, a8, a9, a10, a11, a12, a13, a14, a15, a16, a17, a18, a19, a20, a21], _ => exact ⟨a0, a1, a2, a3, a4, a5, a6, a7, a8, a9, a10, a11, a12, a13, a14, a15, a16, a17, a18, a19, a20, a21, rfl⟩
theorem len23 {α : Type} {s : List α} (h : s.length = 23) : ∃ a0 a1 a2 a3 a4 a5 a6 a7 a8 a9 a10 a11 a12 a13 a14 a15 a16 a17 a18 a19 a20 a21 a22, s = [a0, a1, a2, a3, a4, a5, a6, a7, a8, a9, a10, a11, a12, a13, a14, a15, a16, a17, a18, a19, a20, a21, a22] := by
  match s, h with
  | [a0, a1, a2, a3, a4, a5, a6, a7, a8, a9, a10, a11, a12, a13, a14, a15, a16, a17, a18, a19, a20, a21, a22], _ => exact ⟨a0, a1, a2, a3, a4, a5, a6, a7, a8, a9, a10, a11, a12, a13, a14, a15, a16, a17, a18, a19, a20, a21, a22, rfl⟩
theorem len24 {α : Type} {s : List α} (h : s.length = 24) : ∃ a0 a1 a2 a3 a4 a5 a6 a7 a8 a9 a10 a11 a12 a13 a14 a15 a16 a17 a18 a19 a20 a21 a22 a23, s = [a0, a1, a2, a3, a4, a5, a6, a7, a8, a9, a10, a11, a12, a13, a14, a15, a16, a17, a18, a19, a20, a21, a22, a23] := by
  match s, h with
  | [a0, a1, a2, a3, a4, a5, a6, a7, a8, a9, a10, a11, a12, a13, a14, a15, a16, a17, a18, a19, a20, a21, a22, a23], _ => exact ⟨a0, a1, a2, a3, a4, a5, a6, a7, a8, a9, a10, a11, a12, a13, a14, a15, a16, a17, a18, a19, a20, a21, a22, a23, rfl⟩
/-- a while loop, then the rest -/
theorem wp_wseq {G : Gam} {t : E} {b rest : Cm} {D : DE} {rho : Env} {mu : Store} (I : Nat → Env → Store → Prop) (h0 : ∃ m, I m rho mu)
    (h : ∀ m rho mu, I m rho mu → (∃ mu1, ev G t rho mu = some (.dat (.bl true), mu1) ∧ wpS G b { nx := fun r u => ∃ m', m' < m ∧ I m' r u, rt := D.rt, ct := fun r u => ∃ m', m' < m ∧ I m' r u, bk := wpS G rest D } rho mu1) ∨ ∃ mu1, ev G t rho mu = some (.dat (.bl false), mu1) ∧ wpS G rest D rho mu1) : wpS G (.seq (.whl t b) rest) D rho mu := by
  rw [wp_seq]
  refine wp_whl I h0 fun m rho mu i => ?_
  rcases h m rho mu i with ⟨mu1, h1, h2⟩ | ⟨mu1, h1, h2⟩
  · exact ⟨true, mu1, h1, L2.iteT h2⟩
  · exact ⟨false, mu1, h1, L2.iteF h2⟩
/-- a for loop, then the rest -/
theorem wp_fseq {G : Gam} {tg : T} {it : E} {b rest : Cm} {D : DE} {rho : Env} {mu mu1 : Store} {xs : List Dat} (he : evI G it rho mu = some (xs, mu1)) (I : List Dat → Env → Store → Prop) (h0 : I xs rho mu1)
    (h : ∀ x xs rho mu, I (x :: xs) rho mu → ∃ rho1, bindT tg x rho = some rho1 ∧ ∀ D' : DE, (∀ r m, I xs r m → D'.nx r m) → (∀ r m, I xs r m → D'.ct r m) → D'.rt = D.rt → wpS G b D' rho1 mu)
    (hn : ∀ rho mu, I [] rho mu → wpS G rest D rho mu) : wpS G (.seq (.loop tg it b) rest) D rho mu := by
  rw [wp_seq, wp_loop, he, wO_some]
  exact wp_for I (fun x xs rho mu i => by
    obtain ⟨r1, h1, h2⟩ := h x xs rho mu i
    exact ⟨r1, h1, fun D' a b c _ => h2 D' a b c⟩) hn xs rho mu1 h0
theorem wp_unp {G : Gam} {tg : T} {e : E} {b : Cm} {D : DE} {rho rho1 : Env} {mu mu1 : Store} {d : Dat} (h : ev G e rho mu = some (.dat d, mu1)) (hb : bindT tg d rho = some rho1) (h2 : wpS G b D rho1 mu1) : wpS G (.seq (.asgT tg e) b) D rho mu := by
  simp [h, hb, h2]
theorem wp_put2 {G : Gam} {e1 e2 : E} {i j : Nat} {b : Cm} {D : DE} {rho : Env} {mu mu1 mu2 : Store} {d1 d2 : Dat} (h : ev G e1 rho mu = some (.dat d1, mu1)) (h' : ev G e2 rho mu1 = some (.dat d2, mu2)) (h2 : wpS G b D ((rho.set i (some (.dat d1))).set j (some (.dat d2))) mu2) : wpS G (.seq (.par2 i j (.dat e1) (.dat e2)) b) D rho mu := by
  simp [h, h', h2]
/-- a test that fails; the store may change -/
theorem wp_skip' {G : Gam} {t : E} {a b : Cm} {D : DE} {rho : Env} {mu mu1 : Store} (h : ev G t rho mu = some (.dat (.bl false), mu1)) (h2 : wpS G b D rho mu1) : wpS G (.seq (.ite t a .nil) b) D rho mu := by
  simp [h, h2]
/-- a value that is thrown away -/
theorem wp_drop {G : Gam} {e : E} {b : Cm} {D : DE} {rho : Env} {mu mu1 : Store} {d : Dat} (h : ev G e rho mu = some (.dat d, mu1)) (h2 : wpS G b D rho mu1) : wpS G (.seq (.ex e) b) D rho mu := by
  simp [h, h2]
/-- the law's loop over its bags -/
theorem law_run {G : Gam} {Fb : Fn} (h53 : G.fn 53 = some Fb) (a53 : G.ar 53 = 2) (hb : S_bags Fb) {c body rest : Cm} (N most : Nat) (hm : most ≤ 60) (hc : c = .seq (.loop (.nm 1) (.items (.call 53 (.acons (.var 0) (.acons (.int (most : Int)) .anil)))) body) rest) (ns : List Int)
    (hbody : ∀ (n : Nat) (mu : Store) (s : List (Option Slot)) (D : DE), s.length = N → Bag mu n 60000 → (∀ s' mu', s'.length = N → Fr mu mu' n → D.nx (some (.dat (.lst (ns.map .int))) :: some (.dat (.ref n)) :: s') mu') → wpS G body D (some (.dat (.lst (ns.map .int))) :: some (.dat (.ref n)) :: s) mu)
    (hrest : ∀ s mu, s.length = N + 1 → wpS G rest { nx := fun _ _ => False, rt := fun d _ => d = .bl true } (some (.dat (.lst (ns.map .int))) :: s) mu) :
    ∃ mu', mkB G c (N + 2) [.lst (ns.map .int)] [] = some (.ok (.bl true) mu') := by
  have key := mkB_at (G := G) (c := c) (n := N + 2) (ds := [.lst (ns.map .int)]) (mu := []) (Post := fun d mu' => d = .bl true) ?_
  · obtain ⟨d, mu', h1, rfl⟩ := key
    exact ⟨mu', h1⟩
  obtain ⟨nb, mub, fb, hbl, hbb⟩ := hb ns most hm
  have cb := callD_at (G := G) (mu := []) h53 (ds := [.lst (ns.map .int), .int (most : Int)]) a53.symm fb
  subst hc
  have hst : startE (N + 2) [.lst (ns.map .int)] = some (.dat (.lst (ns.map .int))) :: List.replicate (N + 1) none := by
    unfold startE
    simp
  rw [hst]
  refine wp_fseq (xs := (List.range nb).map .ref) (mu1 := mub) (by simp [cb]) (fun xs rho mu => ∃ (s : List (Option Slot)) (ks : List Nat), s.length = N + 1 ∧ rho = some (.dat (.lst (ns.map .int))) :: s ∧ xs = ks.map .ref ∧ ks.Nodup ∧ ∀ n ∈ ks, Bag mu n 60000) ?_ ?_ ?_
  · exact ⟨_, List.range nb, by simp, rfl, rfl, List.nodup_range, fun n hn => hbb n (List.mem_range.mp hn)⟩
  · rintro x xs rho mu ⟨s, ks, hs, rfl, hks, hnd, hB⟩
    obtain ⟨n, kr, rfl, rfl, rfl⟩ : ∃ n kr, ks = n :: kr ∧ x = .ref n ∧ xs = kr.map .ref := by
      cases ks with
      | nil => simp at hks
      | cons n kr =>
        simp at hks
        exact ⟨n, kr, rfl, hks.1, hks.2⟩
    obtain ⟨a, s, rfl⟩ : ∃ a s', s = a :: s' := by
      cases s with
      | nil => simp at hs
      | cons a s' => exact ⟨a, s', rfl⟩
    refine ⟨_, rfl, fun D' hD _ _ => ?_⟩
    refine hbody n mu s D' (by simpa using hs) (hB n List.mem_cons_self) fun s' mu' hs' hF => hD _ _ ⟨some (.dat (.ref n)) :: s', kr, by simp [hs'], rfl, rfl, (List.nodup_cons.mp hnd).2, fun k hk => (hB k (List.mem_cons_of_mem _ hk)).fr hF fun e => (List.nodup_cons.mp hnd).1 (e ▸ hk)⟩
  · rintro rho mu ⟨s, ks, hs, rfl, -, -, -⟩
    exact wp_mono G (hrest s mu hs) fun o h => by
      cases o with
      | nx r u => exact h.elim
      | rt d u => exact h
      | bk r u => exact h.elim
      | ct r u => exact h.elim
/-- return True -/
theorem ret_true {G : Gam} {rho : Env} {mu : Store} {D : DE} (h : D.rt (.bl true) mu) : wpS G (.seq (.ret (.bl true)) .nil) D rho mu := by
  simp [h]
end Lin

set_option maxHeartbeats 1000000
/-! Laws, part C: comprehensions over numbers. -/
namespace Lin
open PySem PySem.Spec
section
variable {bind : Dat → Option Env} {tst : Env → Store → Option (Bool × Store)} {elt : Env → Store → Option (Dat × Store)} {mu : Store}
theorem lc_mapI (f : Int → Int) {xs : List Int} (h : ∀ i ∈ xs, ∃ rho, bind (.int i) = some rho ∧ tst rho mu = some (true, mu) ∧ elt rho mu = some (.int (f i), mu)) : lcGo bind tst elt (xs.map .int) mu = some ((xs.map f).map .int, mu) := by
  rw [lc_plain (fun d => match d with | .int i => .int (f i) | _ => .non)]
  · rw [List.map_map, List.map_map]; rfl
  · intro x hx
    obtain ⟨i, hi, rfl⟩ := List.mem_map.mp hx
    exact h i hi
theorem lc_filI (p : Int → Bool) {xs : List Int} (h : ∀ i ∈ xs, ∃ rho, bind (.int i) = some rho ∧ tst rho mu = some (p i, mu) ∧ elt rho mu = some (.int i, mu)) : lcGo bind tst elt (xs.map .int) mu = some ((xs.filter p).map .int, mu) := by
  rw [lc_filter id (fun d => match d with | .int i => p i | _ => false)]
  · rw [List.filter_map, List.map_id]; rfl
  · intro x hx
    obtain ⟨i, hi, rfl⟩ := List.mem_map.mp hx
    exact h i hi
end
/-- range as numbers -/
def rngI (lo : Int) (n : Nat) : List Int := (List.range n).map fun i => lo + (i : Nat)
theorem rangeD_I (lo : Int) (n : Nat) : rangeD lo n = (rngI lo n).map .int := by unfold rangeD rngI; rw [List.map_map]; rfl
theorem rngI_len (lo : Int) (n : Nat) : (rngI lo n).length = n := by unfold rngI; rw [List.length_map, List.length_range]
theorem mem_rngI {lo : Int} {n : Nat} {x : Int} : x ∈ rngI lo n ↔ lo ≤ x ∧ x < lo + n := by
  unfold rngI
  rw [List.mem_map]
  constructor
  · rintro ⟨i, hi, rfl⟩
    have := List.mem_range.mp hi
    omega
  · rintro ⟨h1, h2⟩
    exact ⟨(x - lo).toNat, List.mem_range.mpr (by omega), by omega⟩
theorem eqD_lI (a b : List Int) : eqD (.lst (a.map .int)) (.lst (b.map .int)) = some (decide (a = b)) := by
  rw [eqD_nb (nb_lI 59 a) (nb_lI 59 b)]
  congr 1
  rw [decide_eq_decide]
  exact ⟨fun h => map_inj (Dat.lst.inj h), fun h => by rw [h]⟩
theorem eqD_lnil (a : List Int) : eqD (.lst (a.map .int)) (.lst []) = some (decide (a = [])) := eqD_lI a []
theorem eqD_tnil (a : List Int) : eqD (.tup (a.map .int)) (.tup []) = some (decide (a = [])) := eqD_tt a []
theorem okS_ints {k : Nat} (xs : List Int) : okSs k (xs.map .int) = true := okSs_of fun d hd => by
  obtain ⟨i, _, rfl⟩ := List.mem_map.mp hd
  cases k <;> rfl
theorem okS_tI {k : Nat} {xs : List Int} (h : xs.length ≤ cap) : okS (k + 1) (tI xs) = true := by
  unfold tI
  rw [okS, okS_ints, List.length_map, decide_eq_true h]
  rfl
theorem okS_lI {k : Nat} {xs : List Int} (h : xs.length ≤ cap) : okS (k + 1) (.lst (xs.map .int)) = true := by
  rw [okS, okS_ints, List.length_map, decide_eq_true h]
  rfl
end Lin

set_option maxHeartbeats 1000000
/-! Laws, part D: lists of their own. -/
namespace Lin
open PySem PySem.Spec

theorem wp_putL {G : Gam} {e : E} {i : Nat} {b : Cm} {D : DE} {rho : Env} {mu mu1 : Store} {ds : List Dat} (h : ev G e rho mu = some (.dat (.lst ds), mu1)) (h2 : wpS G b D (rho.set i (some (.own (.lst ds)))) mu1) : wpS G (.seq (.asg i (.lst e)) b) D rho mu := by
  have e1 : evP G (.lst e) rho mu = some (.own (.lst ds), mu1) := by
    simp [h]
  simp [wp_seq, wp_asg, e1, h2]
theorem wp_appL {G : Gam} {e : E} {i : Nat} {b : Cm} {D : DE} {rho : Env} {mu mu1 : Store} {ds : List Dat} {d : Dat} (hc : rho[i]? = some (some (.own (.lst ds)))) (h : ev G e rho mu = some (.dat d, mu1)) (hl : ds.length < cap) (h2 : wpS G b D (rho.set i (some (.own (.lst (ds ++ [d]))))) mu1) : wpS G (.seq (.app i e) b) D rho mu := by
  rw [wp_seq, wp_app, h]
  refine ⟨⟨ds, cellAt_own hc⟩, ?_⟩
  rw [wD_some]
  refine ⟨ds, cellAt_own hc, hl, ?_⟩
  rw [putCell_own hc]
  exact h2
theorem wp_setL {G : Gam} {e k : E} {i j : Nat} {b : Cm} {D : DE} {rho : Env} {mu mu1 mu2 : Store} {ds : List Dat} {d : Dat} (hc : rho[i]? = some (some (.own (.lst ds)))) (h : ev G e rho mu = some (.dat d, mu1)) (hk : ev G k rho mu1 = some (.dat (.int (j : Int)), mu2)) (hj : j < ds.length) (h2 : wpS G b D (rho.set i (some (.own (.lst (ds.set j d))))) mu2) : wpS G (.seq (.setIx i k e) b) D rho mu := by
  rw [wp_seq, wp_setIx, h, wD_some, hk, wD_some]
  refine ⟨_, _, cellAt_own hc, by rw [putIx_lst, place_nat hj]; rfl, ?_⟩
  rw [putCell_own hc]
  exact h2
theorem wp_frzL {G : Gam} {i : Nat} {b : Cm} {D : DE} {rho : Env} {mu : Store} {ds : List Dat} (hc : rho[i]? = some (some (.own (.lst ds)))) (h2 : wpS G b D (rho.set i (some (.dat (.lst ds)))) mu) : wpS G (.seq (.frz i) b) D rho mu := by
  rw [wp_seq, wp_frz]
  exact ⟨ds, hc, h2⟩
theorem rep_one (n : Nat) (d : Dat) : (List.replicate n [d]).flatten = List.replicate n d := by
  induction n with
  | zero => rfl
  | succ n ih => rw [List.replicate_succ, List.flatten_cons, ih, List.replicate_succ]; rfl
/-- [0] * n -/
theorem ev_rep0 {G : Gam} {e : E} {rho : Env} {mu mu1 : Store} {n : Nat} (h : ev G e rho mu = some (.dat (.int (n : Int)), mu1)) (hn : n ≤ cap) : ev G (.rep (.acons (.int 0) .anil) e) rho mu = some (.dat (.lst (List.replicate n (.int 0))), mu1) := by
  have e1 : evA G (.acons (.int 0) .anil) rho mu = some ([.int 0], mu) := by simp
  rw [xv_rep, e1, bd_some, h]
  show (if [Dat.int 0].length ≤ cap ∧ (0 : Int) ≤ (n : Int) ∧ (n : Int) ≤ (cap : Nat) ∧ [Dat.int 0].length * ((n : Int)).toNat ≤ cap then some (Hd.dat (.lst (List.replicate ((n : Int)).toNat [Dat.int 0]).flatten), mu1) else none) = _
  rw [Int.toNat_natCast, rep_one, if_pos ⟨show 1 ≤ cap by decide, by omega, by omega, by rw [show [Dat.int 0].length = 1 from rfl, Nat.one_mul]; exact hn⟩]
theorem opD_ownL {rho : Env} {mu : Store} {i : Nat} {xs ys : List Dat} (hc : rho[i]? = some (some (.own (.lst xs)))) (hl : xs.length + ys.length ≤ cap) : opD rho mu .add (.own i) (.dat (.lst ys)) = some (.lst (xs ++ ys)) := by
  have e : seqL rho mu (.own i) = some xs := by
    have : rho.cell i = some (.lst xs) := by
      unfold Env.cell
      rw [hc]
    show (match rho.cell i with | some (.lst ds) => some ds | _ => none) = _
    rw [this]
  show (match seqL rho mu (.own i), seqL rho mu (.dat (.lst ys)) with | some xs, some ys => if xs.length + ys.length ≤ cap then some (Dat.lst (xs ++ ys)) else none | _, _ => none) = _
  rw [e]
  exact if_pos hl
theorem rg_tup {n : Nat} (h : n ≤ cap) : rgD .tup (.int 0) (.int (n : Int)) = some (.tup (rangeD 0 n)) := by
  show (if (0 : Int) ≤ 0 ∧ (0 : Int) ≤ (cap : Nat) ∧ (0 : Int) ≤ (n : Int) ∧ (n : Int) ≤ (cap : Nat) then some (Dat.tup (rangeD 0 ((n : Int) - 0).toNat)) else none) = _
  rw [if_pos ⟨by omega, by omega, by omega, by omega⟩, show ((n : Int) - 0).toNat = n by omega]
theorem rg_lst {n : Nat} (h : n ≤ cap) : rgD .lst (.int 0) (.int (n : Int)) = some (.lst (rangeD 0 n)) := by
  show (if (0 : Int) ≤ 0 ∧ (0 : Int) ≤ (cap : Nat) ∧ (0 : Int) ≤ (n : Int) ∧ (n : Int) ≤ (cap : Nat) then some (Dat.lst (rangeD 0 ((n : Int) - 0).toNat)) else none) = _
  rw [if_pos ⟨by omega, by omega, by omega, by omega⟩, show ((n : Int) - 0).toNat = n by omega]
end Lin

set_option maxHeartbeats 1000000
/-! Laws, part E: a for loop that may be left. -/
namespace Lin
open PySem PySem.Spec

theorem wp_fbrk {G : Gam} {tg : T} {it : E} {b rest : Cm} {D : DE} {rho : Env} {mu mu1 : Store} {xs : List Dat} (he : evI G it rho mu = some (xs, mu1)) (I : List Dat → Env → Store → Prop) (h0 : I xs rho mu1)
    (h : ∀ x xs rho mu, I (x :: xs) rho mu → ∃ rho1, bindT tg x rho = some rho1 ∧ ∀ D' : DE, (∀ r m, I xs r m → D'.nx r m) → (∀ r m, I xs r m → D'.ct r m) → D'.rt = D.rt → (∀ r m, wpS G rest D r m → D'.bk r m) → wpS G b D' rho1 mu)
    (hn : ∀ rho mu, I [] rho mu → wpS G rest D rho mu) : wpS G (.seq (.loop tg it b) rest) D rho mu := by
  rw [wp_seq, wp_loop, he, wO_some]
  exact wp_for I (fun x xs rho mu i => by
    obtain ⟨r1, h1, h2⟩ := h x xs rho mu i
    exact ⟨r1, h1, fun D' a b c d => h2 D' a b c fun r m q => by rw [d]; exact q⟩) hn xs rho mu1 h0
theorem rangeD_c {lo : Int} {n : Nat} {y : Dat} {ys : List Dat} (h : y :: ys = rangeD lo n) : y = .int lo ∧ ys = rangeD (lo + 1) (n - 1) ∧ 0 < n := by
  cases n with
  | zero => cases h
  | succ n =>
    rw [rangeD_I] at h
    unfold rngI at h
    rw [List.range_succ_eq_map, List.map_cons, List.map_cons, List.map_map, List.map_map] at h
    injection h with e1 e2
    refine ⟨by rw [e1]; congr 1; show lo + ((0 : Nat) : Int) = lo; omega, ?_, by omega⟩
    rw [e2, rangeD_I]
    unfold rngI
    rw [List.map_map]
    exact List.map_congr_left fun i _ => by
      show Dat.int (lo + ((i + 1 : Nat) : Int)) = Dat.int (lo + 1 + (i : Int))
      congr 1
      omega
theorem rangeD_n {lo : Int} {n : Nat} (h : [] = rangeD lo n) : n = 0 := by
  have := congrArg List.length h
  rw [rangeD_len] at this
  simpa using this.symm
end Lin

set_option maxHeartbeats 1000000
/-! Lin, part T2: a head without its empty tables; a law's start with tables; defs that take a function. -/
namespace Lin
open PySem PySem.Spec PyProof.Rows L2

/-- the fragment without some places -/
def wo (K : PySem.W.Frag) (Ps : List Addr) : PySem.W.Frag := List.filter (fun q : Addr × Obj => decide (q.1 ∉ Ps)) K
theorem wo_at {Ps : List Addr} {a : Addr} (h : a ∉ Ps) : ∀ K : PySem.W.Frag, (wo K Ps).lookup a = K.lookup a
  | [] => rfl
  | (b, o) :: K => by
    have ih := wo_at h K
    unfold wo at ih ⊢
    by_cases hb : b ∈ Ps
    · have hne : (a == b) = false := by
        simp only [beq_eq_false_iff_ne, ne_eq]
        exact fun z => h (z ▸ hb)
      rw [List.filter_cons_of_neg (by simpa using hb), ih, List.lookup_cons, hne]
    · rw [List.filter_cons_of_pos (by simpa using hb), List.lookup_cons, List.lookup_cons, ih]
theorem wo_none {Ps : List Addr} {a : Addr} (h : a ∈ Ps) : ∀ K : PySem.W.Frag, (wo K Ps).lookup a = none
  | [] => rfl
  | (b, o) :: K => by
    have ih := wo_none h K
    unfold wo at ih ⊢
    by_cases hb : b ∈ Ps
    · rw [List.filter_cons_of_neg (by simpa using hb)]
      exact ih
    · have hne : (a == b) = false := by
        simp only [beq_eq_false_iff_ne, ne_eq]
        exact fun z => hb (z ▸ h)
      rw [List.filter_cons_of_pos (by simpa using hb), List.lookup_cons, hne]
      exact ih
theorem wo_in {K : PySem.W.Frag} {h : Heap} {Ps : List Addr} (X : K.In h) : (wo K Ps).In h := fun a o e => by
  by_cases z : a ∈ Ps
  · rw [wo_none z] at e
    cases e
  · rw [wo_at z] at e
    exact X a o e
/-- empty tables -/
def Empties (h : Heap) (Ps : List Addr) : Prop := ∀ P ∈ Ps, h.get? P = some { cls := .none, data := .fields #[] }
section
variable {K : PySem.W.Frag} {h : Heap} {Ps : List Addr}
theorem wo_lk (X : K.In h) (E : Empties h Ps) {f : Addr} {oc : Value} {od : Option Addr} {fd : FuncData} {sl : Array (Option Value)} (e : K.lookup f = some ⟨oc, od, .func fd, sl⟩) : (wo K Ps).lookup f = some ⟨oc, od, .func fd, sl⟩ := by
  rw [wo_at]
  · exact e
  · intro z
    have e2 := X _ _ e
    rw [E f z] at e2
    cases e2
theorem wo_kp {f : Addr} {oc : Value} {od : Option Addr} {fd : FuncData} {sl : Array (Option Value)} (e : (wo K Ps).lookup f = some ⟨oc, od, .func fd, sl⟩) : PySem.W.keepIn (wo K Ps) (.ref f) = true := by
  simp only [PySem.W.keepIn, e]
theorem wo_cd (X : K.In h) (E : Empties h Ps) {cd : Value} {q : Str} (e : PySem.W.codeIn K cd q = true) : PySem.W.codeIn (wo K Ps) cd q = true := by
  cases cd with
  | ref c =>
    have hc : c ∉ Ps := fun z => by
      cases hk : K.lookup c with
      | none => simp [PySem.W.codeIn, hk] at e
      | some o =>
        have e2 := X _ _ hk
        rw [E c z] at e2
        cases e2
        simp [PySem.W.codeIn, hk] at e
    have e' : (match K.lookup c with
      | some ⟨_, _, .fields vs, _⟩ => (match vs.toList with | _ :: .str n _ :: _ => n == q | _ => false)
      | _ => false) = true := e
    show (match (wo K Ps).lookup c with
      | some ⟨_, _, .fields vs, _⟩ => (match vs.toList with | _ :: .str n _ :: _ => n == q | _ => false)
      | _ => false) = true
    rw [wo_at hc]
    exact e'
  | _ => cases e
end
/-- what a code object's fields say of its table -/
def hdB (vs : Array Value) (c P : Addr) : Bool := (match (vs[11]? : Option Value) with | some (.ref P') => P' == P | _ => false) &&
      (match vs.getD 18 .none with | .str _ _ => true | _ => false) && (match vs.getD 7 .none with | .int _ _ => true | _ => false) &&
      (match vs.getD 9 .none with | .bool _ => true | _ => false) && (match vs.getD 10 .none with | .int _ _ => true | _ => false) && c != P
theorem hd_of {K : PySem.W.Frag} {h : Heap} {c P : Addr} {od : Option Addr} {vs : Array Value} {sl : Array (Option Value)} (X : K.In h) (e : K.lookup c = some ⟨.type "code", od, .fields vs, sl⟩) (b : hdB vs c P = true) : PySem.W.CodeHd h c P := by
  refine PySem.W.codeHd_of_K X ?_
  unfold PySem.W.codeHdIn
  rw [e]
  exact b
/-- the tables as cells -/
def tabsS : Nat → List (Addr × Str) → Store
  | _, [] => []
  | n, p :: r => .tab n p.1 p.2 :: tabsS (n + 1) r
theorem tabsS_len : ∀ (n : Nat) (ps : List (Addr × Str)), (tabsS n ps).length = ps.length
  | _, [] => rfl
  | n, _ :: r => by rw [tabsS, List.length_cons, List.length_cons, tabsS_len]
theorem tabsS_at : ∀ (n : Nat) (ps : List (Addr × Str)) (i : Nat) (p : Addr × Str), ps[i]? = some p → (tabsS n ps)[i]? = some (.tab (n + i) p.1 p.2)
  | _, [], i, p, h => by simp at h
  | n, q :: r, 0, p, h => by
    simp at h
    subst h
    rfl
  | n, q :: r, i + 1, p, h => by
    have := tabsS_at (n + 1) r i p (by simpa using h)
    rw [tabsS, List.getElem?_cons_succ, this]
    congr 1
    congr 1
    omega
theorem tabsS_inv : ∀ (n : Nat) (ps : List (Addr × Str)) (i : Nat) (c : Cell), (tabsS n ps)[i]? = some c → ∃ p, ps[i]? = some p ∧ c = .tab (n + i) p.1 p.2 := fun n ps i c h => by
  have hl : i < ps.length := by
    have := (List.getElem?_eq_some_iff.mp h).1
    rwa [tabsS_len] at this
  have h2 := tabsS_at n ps i ps[i] (List.getElem?_eq_getElem hl)
  rw [h2] at h
  exact ⟨ps[i], List.getElem?_eq_getElem hl, (Option.some.inj h).symm⟩
/-- the law: for every script true; tables at the start -/
theorem law_spT {K : PySem.W.Frag} {xa : Nat → Addr} {F : Fn} {H : Hp} {a : Addr} {ns : List Int} {ps : List (Addr × Str)} (nd : (ps.map (·.1)).Nodup) (hT : ∀ p ∈ ps, H p.1 = some (.tbl #[])) (hS : SqL K H a (ns.map V.int)) (h : ∃ mu', F [.lst (ns.map .int)] (tabsS 0 ps) = some (.ok (.bl true) mu')) :
    spOf K xa 1 F [.ref a] H (fun v _ => v = .bl true) fun _ _ _ => False := by
  classical
  obtain ⟨mu', e⟩ := h
  have hB : ∀ b, b ∈ ps.map (·.1) → H b = some (.tbl #[]) := fun b hb => by
    obtain ⟨p, hp, rfl⟩ := List.mem_map.mp hb
    exact hT p hp
  have keep : ∀ b o, H b = some o → (∀ t, o ≠ .tbl t) → (fun b => if b ∈ ps.map (·.1) then none else H b : Hp) b = some o := fun b o hb hn => by
    show (if b ∈ ps.map (·.1) then none else H b) = some o
    rw [if_neg]
    · exact hb
    · intro z
      rw [hB b z] at hb
      exact hn _ (Option.some.inj hb).symm
  have hS' : SqL K (fun b => if b ∈ ps.map (·.1) then none else H b) a (ns.map V.int) := by
    rcases hS with (z | ⟨o, z⟩) | z
    · exact .inl (.inl (keep _ _ z fun _ y => nomatch y))
    · exact .inl (.inr ⟨o, keep _ _ z fun _ y => nomatch y⟩)
    · exact .inr z
  refine ⟨rfl, fun b => if b ∈ ps.map (·.1) then none else H b, ps.map (·.1), tabsS 0 ps, [.lst (ns.map .int)], _, ⟨fun b o z => ?_, by rw [List.length_map, tabsS_len], fun n c hc => ?_, nd⟩, .cons (.lst hS' (Reps.ofInts ns)) .nil, e, ?_⟩
  · have z' : (if b ∈ ps.map (·.1) then none else H b) = some o := z
    split at z'
    · cases z'
    · exact z'
  · obtain ⟨p, hp, rfl⟩ := tabsS_inv 0 ps n c hc
    have hat : (ps.map (·.1))[n]? = some p.1 := by rw [List.getElem?_map, hp]; rfl
    refine ⟨p.1, .tbl #[], hat, if_pos (List.mem_of_getElem? hat), hT p (List.mem_of_getElem? hp), .tab (by rw [Nat.zero_add]; exact hat) True.intro fun pos cv hcv => ?_⟩
    have hcv' : codeAmong pos [] = some cv := hcv
    simp [codeAmong] at hcv'
  · intro v B' H' th' _ _ r
    cases r
    rfl
/-- a def that takes a function -/
noncomputable def hfB (G : Gam) (c : Cm) (n : Nat) : Addr → Fn → Fn := fun f clo ds mu => mkB { G with hb := some (f, clo) } c n (ds ++ [.fn f]) mu
theorem hfB_good (G : Gam) (c : Cm) (n ar : Nat) : ∀ f clo ds mu r, ds.length + 1 = ar → hfB G c n f clo ds mu = some r → ∃ d mu', r = .ok d mu' ∧ wpS { G with hb := some (f, clo) } c { nx := fun _ u => d = .non ∧ u = mu', rt := fun d' u => d' = d ∧ u = mu' } (startE n (ds ++ [.fn f])) mu :=
  fun f clo ds mu r hl h => mkB_good { G with hb := some (f, clo) } c n ar (ds ++ [Dat.fn f]) mu r (by rw [List.length_append]; exact hl) h
end Lin

set_option maxHeartbeats 1000000
/-! Specs: the bags, made behind other cells. -/
namespace Lin
open PySem PySem.Spec

def S_bagsT (F : Fn) : Prop := ∀ (t : Store) (ns : List Int) (most : Nat), most ≤ 60 → ∃ (k : Nat) (mu' : Store), F [.lst (ns.map .int), .int (most : Int)] t = some (.ok (.lst ((List.range k).map fun i => .ref (t.length + i))) mu') ∧ mu'.length = t.length + k ∧ (∀ n, n < t.length → mu'[n]? = t[n]?) ∧ ∀ n, n < k → Bag mu' (t.length + n) 60000
theorem ok_bagsT (G : Gam) {Fw : Fn} (h51 : G.fn 51 = some Fw) (a51 : G.ar 51 = 2) (hw : S_well Fw) : S_bagsT (mkB G c_law_bags N_law_bags.length) := by
  intro t ns most hm
  have key := mkB_at (G := G) (c := c_law_bags) (n := N_law_bags.length) (ds := [.lst (ns.map .int), .int (most : Int)]) (mu := t) (Post := fun d mu' => ∃ k, d = .lst ((List.range k).map fun i => .ref (t.length + i)) ∧ mu'.length = t.length + k ∧ (∀ n, n < t.length → mu'[n]? = t[n]?) ∧ ∀ n, n < k → Bag mu' (t.length + n) 60000) ?_
  · obtain ⟨d, mu', h1, k, rfl, h2⟩ := key
    exact ⟨k, mu', h1, h2⟩
  · have hl : (ns.take most).length ≤ 60 := by rw [List.length_take]; omega
    have hc1 : 1 ≤ cap := by decide
    have hc2 : (ns.take most).length + 1 ≤ cap := by rw [cap_val]; omega
    have hc3 : (List.map Dat.int (ns.take most)).length + 1 ≤ cap := by rw [List.length_map]; exact hc2
    have hc4 : (enumD 0 (List.map Dat.int (ns.take most) ++ [Dat.int 0])).length ≤ cap := by rw [enumD_len, List.length_append]; exact hc3
    have hc5 : min most ns.length + 1 ≤ cap := by rw [cap_val]; omega
    simp only [List.length_map, List.map_take] at hc3 hc4
    obtain ⟨ds, mu', g1, g2, g3, g4⟩ := lc_turns (bind := fun x => bindT (.tup (.cons (.nm 2) (.cons (.nm 3) .nil))) x (wipeE (startE 4 [.lst (ns.map .int), .int (most : Int)]) [2, 3])) (tst := fun rho' mu' => evTs G .anil rho' mu') (elt := fun rho' mu' => bdD (ev G (.call 51 (.acons (.var 3) (.acons (.op .mul (.int 977) (.var 2)) .anil))) rho' mu') fun d mu2 => some (d, mu2))
      (fun i mu => mu.length = t.length + i ∧ (∀ n, n < t.length → mu[n]? = t[n]?) ∧ ∀ n, n < i → Bag mu (t.length + n) 60000) (fun i d => d = .ref (t.length + i)) (enumD 0 ((ns.take most).map .int ++ [.int 0])) 0 t (fun i x mu hx ⟨hmu, hk, hb⟩ => by
        obtain ⟨y, rfl, hy⟩ := enumD_at hx
        have hi : i < ((ns.take most).map Dat.int ++ [Dat.int 0]).length := (List.getElem?_eq_some_iff.mp hy).1
        have hi60 : i ≤ 60 := by rw [List.length_append, List.length_map] at hi; simp at hi; omega
        obtain ⟨z, rfl⟩ : ∃ z : Int, y = .int z := by
          have hm := List.mem_of_getElem? hy
          rcases List.mem_append.mp hm with q | q
          · obtain ⟨z, _, rfl⟩ := List.mem_map.mp q
            exact ⟨z, rfl⟩
          · exact ⟨0, by simpa using q⟩
        have e1 : arith .mul 977 (i : Int) = some (977 * (i : Int)) := ar_mul (.inl (by decide))
        obtain ⟨s, p, hF, hs⟩ := hw z (977 * (i : Int)) mu
        have hcall := callD_at (G := G) (mu := mu) h51 (ds := [.int z, .int (977 * (i : Int))]) a51.symm hF
        refine ⟨_, .ref (t.length + i), mu ++ [.lst [.int s, .int p, .int (977 * (i : Int))]], rfl, rfl, ?_, ⟨?_, fun n hn => by rw [List.getElem?_append_left (by omega)]; exact hk n hn, fun n hn => ?_⟩, by simp⟩
        · simp [startE, wipeE, e1, hcall]
          omega
        · simp; omega
        · by_cases e : n < i
          · obtain ⟨s', p', q', h1, h2⟩ := hb n (by omega)
            exact ⟨s', p', q', by rw [List.getElem?_append_left (by omega)]; exact h1, h2⟩
          · have e : t.length + n = mu.length := by omega
            rw [e]
            refine ⟨s, p, 977 * (i : Int), by simp, hs, by omega, by omega⟩) ⟨rfl, fun _ _ => rfl, fun n hn => by omega⟩
    have hds : ds = (List.range ds.length).map fun i => .ref (t.length + i) := by
      apply List.ext_getElem?
      intro i
      by_cases hi : i < ds.length
      · have := g4 i _ (List.getElem?_eq_getElem hi)
        rw [List.getElem?_eq_getElem hi, this]
        simp [hi]
      · rw [List.getElem?_eq_none (by omega), List.getElem?_eq_none (by simp; omega)]
    have hcut : cut (ns.map Dat.int) none (some (most : Int)) = (ns.map Dat.int).take most := cut_to _ _
    simp [startE] at g1
    simp [c_law_bags, N_law_bags, startE, hcut, hc1, hc3, hc4, hc5]
    rw [g1]
    simp
    refine ⟨ds.length, hds, ?_, ?_, ?_⟩
    · rw [g3.1]; omega
    · exact g3.2.1
    · intro n hn
      exact g3.2.2 n (by omega)
end Lin

set_option maxHeartbeats 1000000
/-! Specs: hidden lengths, free places. -/
namespace Lin
open PySem PySem.Spec

/-- words with another length at an index; with a further word -/
def subW (ws : List Int) (i : Nat) (l : Int) : List Int := ws.take i ++ [l] ++ ws.drop (i + 1)
def insW (ws : List Int) (i : Nat) (l : Int) : List Int := ws.take i ++ [l] ++ ws.drop i
theorem subW_len {ws : List Int} {i : Nat} (l : Int) (h : i < ws.length) : (subW ws i l).length = ws.length := by
  unfold subW
  rw [List.length_append, List.length_append, List.length_take, List.length_drop, List.length_singleton]
  omega
theorem insW_len {ws : List Int} {i : Nat} (l : Int) (h : i ≤ ws.length) : (insW ws i l).length = ws.length + 1 := by
  unfold insW
  rw [List.length_append, List.length_append, List.length_take, List.length_drop, List.length_singleton]
  omega
theorem ev_sub {G : Gam} {rho : Env} {mu : Store} {a b c : Nat} {ws : List Int} {i : Nat} {l : Int} (ha : rho[a]? = some (some (.dat (tI ws)))) (hb : rho[b]? = some (some (.dat (.int (i : Int))))) (hc : rho[c]? = some (some (.dat (.int l)))) (hl : ws.length ≤ 60) :
    ev G (.op .add (.op .add (.slc (.var a) .anil (.acons (.var b) .anil)) (.tup (.acons (.var c) .anil))) (.slc (.var a) (.acons (.op .add (.var b) (.int 1)) .anil) .anil)) rho mu = some (.dat (tI (subW ws i l)), mu) := by
  have e1 : cut (ws.map Dat.int) none (some (i : Int)) = (ws.take i).map .int := by rw [cut_to, List.map_take]
  have e2 : cut (ws.map Dat.int) (some ((i + 1 : Nat) : Int)) none = (ws.drop (i + 1)).map .int := by rw [cut_from, List.map_drop]
  rw [Int.natCast_add] at e2
  have l1 : (ws.take i).length ≤ 60 := by rw [List.length_take]; omega
  have l2 : (ws.drop (i + 1)).length ≤ 60 := by rw [List.length_drop]; omega
  unfold subW
  generalize hA : ws.take i = A at e1 l1
  generalize hB : ws.drop (i + 1) = Bb at e2 l2
  have c1 : 1 ≤ cap := by decide
  have c2 : A.length + 1 ≤ cap := by rw [cap_val]; omega
  have c3 : A.length + 1 + Bb.length ≤ cap := by rw [cap_val]; omega
  have e2' : cut (ws.map Dat.int) (some ((i : Int) + 1)) none = Bb.map .int := e2
  simp only [tI] at ha ⊢
  simp [ha, hb, hc, e1, e2', c1, c2, c3]
theorem ev_ins {G : Gam} {rho : Env} {mu : Store} {a b c : Nat} {ws : List Int} {i : Nat} {l : Int} (ha : rho[a]? = some (some (.dat (tI ws)))) (hb : rho[b]? = some (some (.dat (.int (i : Int))))) (hc : rho[c]? = some (some (.dat (.int l)))) (hl : ws.length ≤ 60) :
    ev G (.op .add (.op .add (.slc (.var a) .anil (.acons (.var b) .anil)) (.tup (.acons (.var c) .anil))) (.slc (.var a) (.acons (.var b) .anil) .anil)) rho mu = some (.dat (tI (insW ws i l)), mu) := by
  have e1 : cut (ws.map Dat.int) none (some (i : Int)) = (ws.take i).map .int := by rw [cut_to, List.map_take]
  have e2 : cut (ws.map Dat.int) (some (i : Int)) none = (ws.drop i).map .int := by rw [cut_from, List.map_drop]
  have l1 : (ws.take i).length ≤ 60 := by rw [List.length_take]; omega
  have l2 : (ws.drop i).length ≤ 60 := by rw [List.length_drop]; omega
  unfold insW
  generalize hA : ws.take i = A at e1 l1
  generalize hB : ws.drop i = Bb at e2 l2
  have c1 : 1 ≤ cap := by decide
  have c2 : A.length + 1 ≤ cap := by rw [cap_val]; omega
  have c3 : A.length + 1 + Bb.length ≤ cap := by rw [cap_val]; omega
  simp only [tI] at ha ⊢
  simp [ha, hb, hc, e1, e2, c1, c2, c3]
/-- a loop that picks -/
theorem wp_filt {G : Gam} {v o : Nat} {it : E} {body rest : Cm} {D : DE} {rho : Env} {mu mu1 : Store} {ns : List Int} (p : Int → Bool) (hv : v < rho.length) (ho : rho[o]? = some (some (.own (.lst [])))) (hne : v ≠ o) (hcap : ns.length ≤ 1000) (he : evI G it rho mu = some (ns.map .int, mu1))
    (hb : ∀ (x : Int) (acc : List Int) (D' : DE), x ∈ ns → acc.length < 1000 → D'.nx ((rho.set v (some (.dat (.int x)))).set o (some (.own (.lst ((if p x = true then acc ++ [x] else acc).map .int))))) mu1 →
      wpS G body D' ((rho.set v (some (.dat (.int x)))).set o (some (.own (.lst (acc.map .int))))) mu1)
    (hn : ∀ s, wpS G rest D ((rho.set v s).set o (some (.own (.lst ((ns.filter p).map .int))))) mu1) : wpS G (.seq (.loop (.nm v) it body) rest) D rho mu := by
  refine wp_fseq (xs := ns.map .int) (mu1 := mu1) he (fun xs r m => m = mu1 ∧ ∃ (done todo : List Int) (s : Option Slot), ns = done ++ todo ∧ xs = todo.map .int ∧ r = (rho.set v s).set o (some (.own (.lst ((done.filter p).map .int))))) ?_ ?_ ?_
  · refine ⟨rfl, [], ns, rho[v], rfl, rfl, ?_⟩
    have ol := (List.getElem?_eq_some_iff.mp ho)
    obtain ⟨ol, oe⟩ := ol
    rw [List.set_getElem_self]
    show rho = rho.set o (some (.own (.lst [])))
    rw [← oe, List.set_getElem_self]
  · rintro x xs r m ⟨rfl, done, todo, s, hns, hx, rfl⟩
    cases todo with
    | nil => cases hx
    | cons y ys =>
      simp only [List.map_cons, List.cons.injEq] at hx
      obtain ⟨rfl, rfl⟩ := hx
      refine ⟨_, rfl, fun D' h1 h2 h3 => ?_⟩
      have hr : ((rho.set v s).set o (some (Slot.own (.lst ((done.filter p).map .int))))).set v (some (.dat (.int y))) = (rho.set v (some (.dat (.int y)))).set o (some (.own (.lst ((done.filter p).map .int)))) := by
        rw [List.set_comm _ _ (Ne.symm hne), List.set_set]
      rw [hr]
      have hd : (done.filter p).length < 1000 := by
        have := List.length_filter_le p done
        rw [hns, List.length_append, List.length_cons] at hcap
        omega
      refine hb y (done.filter p) D' (by rw [hns]; exact List.mem_append_right _ List.mem_cons_self) hd (h1 _ _ ⟨rfl, done ++ [y], ys, some (.dat (.int y)), by rw [hns, List.append_assoc]; rfl, rfl, ?_⟩)
      rw [List.filter_append, List.filter_cons, List.filter_nil]
      by_cases q : p y = true
      · rw [if_pos q, if_pos q]
      · rw [if_neg q, if_neg q, List.append_nil]
  · rintro r m ⟨rfl, done, todo, s, hns, hx, rfl⟩
    have : todo = [] := by
      cases todo with
      | nil => rfl
      | cons _ _ => cases hx
    subst this
    rw [List.append_nil] at hns
    rw [← hns]
    exact hn s
/-- if test: xs.append(x) -/
theorem wp_pick {G : Gam} {t : E} {o v : Nat} {D : DE} {rho : Env} {mu : Store} {acc : List Int} {x : Int} {b : Bool} (ht : ev G t rho mu = some (.dat (.bl b), mu)) (ho : rho[o]? = some (some (.own (.lst (acc.map .int))))) (hv : rho[v]? = some (some (.dat (.int x)))) (hl : acc.length < 1000)
    (hD : D.nx (rho.set o (some (.own (.lst ((if b = true then acc ++ [x] else acc).map .int))))) mu) : wpS G (.seq (.ite t (.seq (.app o (.var v)) .nil) .nil) .nil) D rho mu := by
  have hc : (acc.map Dat.int).length < cap := by rw [List.length_map, cap_val]; omega
  rw [wp_seq]
  refine ⟨b, mu, ht, ?_⟩
  cases b with
  | true =>
    have hs : wpS G (.seq (.app o (.var v)) .nil) { nx := wpS G .nil D, rt := D.rt, bk := D.bk, ct := D.ct } rho mu := by
      refine wp_appL (mu1 := mu) (d := .int x) ho (by simp [hv]) hc ?_
      rw [if_pos rfl, List.map_append] at hD
      exact hD
    exact hs
  | false =>
    have e : rho.set o (some (.own (.lst (acc.map .int)))) = rho := by
      obtain ⟨ol, oe⟩ := List.getElem?_eq_some_iff.mp ho
      rw [← oe, List.set_getElem_self]
    rw [if_neg (by simp), e] at hD
    exact hD

/-! ### hidden lengths -/
def S_wl (F : Fn) : Prop := ∀ (ws : List Int) (i : Nat) (l : Int) (mu : Store), ws.length ≤ 60 → F [tI ws, .int (i : Int), .int l] mu = some (.ok (tI (subW ws i l)) mu)
theorem ok_wl (G : Gam) : S_wl (mkB G c_with_length N_with_length.length) := by
  intro ws i l mu hl
  refine S_of ?_
  have e := ev_sub (G := G) (mu := mu) (rho := startE N_with_length.length [tI ws, .int (i : Int), .int l]) (a := 0) (b := 1) (c := 2) (ws := ws) (i := i) (l := l) rfl rfl rfl hl
  rw [c_with_length, wp_seq, wp_ret, e]
  simp
/-- the lengths that are asked of -/
def lens (w : Int) : List Int := rngI 1 (min 40 w).toNat
theorem mem_lens {w l : Int} (hw : 0 ≤ w) : l ∈ lens w ↔ 1 ≤ l ∧ l ≤ min 40 w := by
  unfold lens
  rw [mem_rngI]
  omega
theorem lens_len (w : Int) : (lens w).length ≤ 40 := by
  unfold lens
  rw [rngI_len]
  omega
/-- the ends of what was found -/
def ends : List Int → Dat
  | [] => .non
  | x :: r => .tup [.int x, .int ((x :: r).getLastD 0)]
def S_that (HF : Addr → Fn → Fn) : Prop := ∀ (f : Addr) (clo : Fn) (ws : List Int) (i : Nat) (w : Int) (p : Int → Bool) (mu : Store), ws.length ≤ 60 → 0 ≤ w → w ≤ 2500 → (∀ l ∈ lens w, VX (subW ws i l) w) →
  (∀ l ∈ lens w, clo [tI (nI (starts (subW ws i l) w 0))] mu = some (.ok (.bl (p l)) mu)) → HF f clo [tI ws, .int (i : Int), .int w] mu = some (.ok (ends ((lens w).filter p)) mu)
theorem ne_nil {rho : Env} {mu : Store} {n : Nat} {xs : List Int} (ho : rho[n]? = some (some (.own (.lst (xs.map .int))))) : cmpD rho mu .ne (.own n) (.dat (.lst [])) = some (!decide (xs = [])) := by
  have h1 : now rho mu (.own n) = some (.lst (xs.map .int)) := by simp [now, seqL, Env.cell, ho]
  have h2 : now rho mu (.dat (.lst [])) = some (.lst []) := rfl
  show (match now rho mu (.own n), now rho mu (.dat (.lst [])) with
    | some a, some b => (eqD a b).map (!·)
    | _, _ => none) = _
  rw [h1, h2]
  show (eqD (.lst (xs.map .int)) (.lst [])).map (!·) = _
  rw [eqD_lnil]
  rfl
theorem ok_that (G : Gam) {Fw : Fn} (g1 : G.gc 1 = some 40) (h32 : G.fn 32 = some Fw) (a32 : G.ar 32 = 3) (hw : S_wl Fw) (h10 : G.fn 10 = some F_starts_of) (a10 : G.ar 10 = 3) : S_that (hfB G c_lengths_that N_lengths_that.length) := by
  intro f clo ws i w p mu hl hw0 hw1 hX hc
  unfold hfB
  refine S_of ?_
  generalize hG : ({ G with hb := some (f, clo) } : Gam) = G'
  have hg' : G'.gc 1 = some 40 := by rw [← hG]; exact g1
  have hb' : G'.hb = some (f, clo) := by rw [← hG]
  have h32' : G'.fn 32 = some Fw := by rw [← hG]; exact h32
  have a32' : G'.ar 32 = 3 := by rw [← hG]; exact a32
  have h10' : G'.fn 10 = some F_starts_of := by rw [← hG]; exact h10
  have a10' : G'.ar 10 = 3 := by rw [← hG]; exact a10
  have hst : startE N_lengths_that.length ([tI ws, .int (i : Int), .int w] ++ [Dat.fn f]) = [some (.dat (tI ws)), some (.dat (.int (i : Int))), some (.dat (.int w)), some (.dat (.fn f)), none, none] := rfl
  rw [hst, c_lengths_that]
  refine wp_putL (ds := []) (mu1 := mu) (by simp) ?_
  have hsm : smallI (min 40 w + 1) := ⟨by omega, by omega⟩
  have hsm1 : smallI 1 := ⟨by omega, by omega⟩
  refine wp_filt (o := 4) (mu1 := mu) (ns := lens w) p (by simp) rfl (by decide) (Nat.le_trans (lens_len w) (by decide)) ?_ ?_ ?_
  · simp [hg', hsm, hsm1]
    unfold lens
    rw [← rangeD_I]
  · intro x acc D' hx hacc hD
    have c1 := callD_at (G := G') (mu := mu) h32' (ds := [tI ws, .int (i : Int), .int x]) a32'.symm (hw ws i x mu hl)
    have c2 := callD_at (G := G') (mu := mu) h10' (ds := [tI (subW ws i x), .int w, .int 0]) a10'.symm (at_starts_of (i := 0) (hX x hx) (Nat.zero_le _))
    rw [wp_seq]
    refine ⟨tI (nI (starts (subW ws i x) w 0)), mu, by simp [c1, c2], f, clo, p x, mu, rfl, hb', hc x hx, ?_⟩
    cases hp : p x with
    | true =>
      rw [hp, if_pos rfl] at hD
      refine L2.iteT (wp_appL (ds := acc.map .int) (mu1 := mu) (d := .int x) rfl (by simp) (by rw [List.length_map, cap_val]; omega) ?_)
      rw [List.map_append] at hD
      exact hD
    | false =>
      rw [hp, if_neg (by simp)] at hD
      exact L2.iteF hD
  · intro s
    generalize hxs : (lens w).filter p = xs
    have hn := ne_nil (rho := ([some (.dat (tI ws)), some (.dat (.int (i : Int))), some (.dat (.int w)), some (.dat (.fn f)), some (.own (.lst (xs.map .int))), s] : Env)) (mu := mu) (n := 4) (xs := xs) rfl
    cases xs with
    | nil =>
      simp only [List.map_nil] at hn
      simp [ends, hn]
    | cons y r =>
      have h1 : at? ((y :: r).map Dat.int) (-1) = some (.int ((y :: r).getLastD 0)) := at_last (by
        rw [List.getLast?_map, List.getLastD_eq_getLast?, List.getLast?_eq_some_getLast (by simp)]
        rfl)
      have h0 : at? ((y :: r).map Dat.int) 0 = some (.int y) := at_0 _ _
      have hf : decide (y :: r = []) = false := by simp
      rw [hf] at hn
      have c2 : 2 ≤ cap := by decide
      unfold ends
      generalize hz : (y :: r).getLastD 0 = z at h1 ⊢
      generalize (y :: r).map Dat.int = zs at h0 h1 hn ⊢
      simp [hn, h0, h1, c2]
      rw [← hz, List.getLastD_eq_getLast?]
/-! ### the longest length -/
theorem clo_len {G : Gam} {rho : Env} {lines : Int} {j : Nat} (hj : rho[j]? = some (some (.dat (.int lines)))) (xs : List Int) (mu : Store) : cloOf G [j] (.cmp .eq (.blt .len (.acons (.var 0) .anil)) (.var 1)) rho [tI xs] mu = some (.ok (.bl (decide ((xs.length : Int) = lines))) mu) := by
  unfold cloOf
  have e : ev G.bare (.cmp .eq (.blt .len (.acons (.var 0) .anil)) (.var 1)) (List.map (fun d => some (Slot.dat d)) [tI xs] ++ List.map (capS rho) [j]) mu = some (.dat (.bl (decide ((xs.length : Int) = lines))), mu) := by
    have hc : capS rho j = some (.dat (.int lines)) := by unfold capS; rw [hj]
    simp [hc, tI]
  rw [e]
/-- the lengths with the same number of lines -/
def sameL (ws : List Int) (w : Int) (i : Nat) : List Int := (lens w).filter fun l => decide ((starts (subW ws i l) w 0).length = (starts ws w 0).length)
theorem subW_self {ws : List Int} {i : Nat} (h : i < ws.length) : subW ws i ws[i] = ws := by
  unfold subW
  rw [List.append_assoc, List.singleton_append, List.getElem_cons_drop, List.take_append_drop]
theorem subW_mem {ws : List Int} {i : Nat} {l x : Int} (h : x ∈ subW ws i l) : x ∈ ws ∨ x = l := by
  unfold subW at h
  rcases List.mem_append.mp h with h | h
  · rcases List.mem_append.mp h with h | h
    · exact .inl (List.mem_of_mem_take h)
    · exact .inr (List.mem_singleton.mp h)
  · exact .inl (List.mem_of_mem_drop h)
theorem insW_mem {ws : List Int} {i : Nat} {l x : Int} (h : x ∈ insW ws i l) : x ∈ ws ∨ x = l := by
  unfold insW at h
  rcases List.mem_append.mp h with h | h
  · rcases List.mem_append.mp h with h | h
    · exact .inl (List.mem_of_mem_take h)
    · exact .inr (List.mem_singleton.mp h)
  · exact .inl (List.mem_of_mem_drop h)
theorem subW_VX {ws : List Int} {w l : Int} {i : Nat} (h : VX ws w) (hi : i < ws.length) (hl : l ∈ lens w) : VX (subW ws i l) w := by
  have hm := (mem_lens (by have := h.one; omega)).mp hl
  refine ⟨⟨by rw [subW_len l hi]; exact h.v.1, fun x hx => ?_⟩, fun x hx => ?_, h.one, h.hi⟩
  · rcases subW_mem hx with q | q
    · exact h.v.2 x q
    · omega
  · rcases subW_mem hx with q | q
    · exact h.lo x q
    · omega
theorem insW_VX {ws : List Int} {w l : Int} {i : Nat} (h : VX ws w) (hn : ws.length < 60) (hi : i ≤ ws.length) (h1 : 1 ≤ l) (h2 : l ≤ 40) (h3 : l ≤ w) : VX (insW ws i l) w := by
  refine ⟨⟨by rw [insW_len l hi]; omega, fun x hx => ?_⟩, fun x hx => ?_, h.one, h.hi⟩
  · rcases insW_mem hx with q | q
    · exact h.v.2 x q
    · omega
  · rcases insW_mem hx with q | q
    · exact h.lo x q
    · omega
theorem sameL_ne {ws : List Int} {w : Int} {i : Nat} (h : VX ws w) (hi : i < ws.length) : sameL ws w i ≠ [] := fun z => by
  have hm : ws[i] ∈ ws := List.getElem_mem hi
  have : ws[i] ∈ sameL ws w i := by
    unfold sameL
    rw [List.mem_filter, mem_lens (by have := h.one; omega)]
    have h1 := h.v.2 _ hm
    have h2 := h.lo _ hm
    exact ⟨⟨h1.1, by omega⟩, by rw [subW_self hi]; simp⟩
  rw [z] at this
  cases this
def S_longest (n : Nat) (P : Addr) (q : Str) (F : Fn) : Prop := ∀ (ws : List Int) (w : Int) (i : Nat) (mu : Store), VX ws w → i < ws.length → mu[n]? = some (.tab n P q) → F [tI ws, .int w, .int (i : Int)] mu = some (.ok (.int ((sameL ws w i).getLastD 0)) mu)
theorem ok_longest (G : Gam) {n : Nat} {P : Addr} {q : Str} {HF : Addr → Fn → Fn} (h5 : G.fn 5 = some F_check_text) (a5 : G.ar 5 = 2) (h1 : G.fn 1 = some F_in_range) (a1 : G.ar 1 = 3) (h10 : G.fn 10 = some F_starts_of) (a10 : G.ar 10 = 3) (h33 : G.hf 33 = some HF) (a33 : G.ar 33 = 4) (hh : S_that HF) :
    S_longest n P q (mkB (G.tab n P q) c_longest_length N_longest_length.length) := by
  intro ws w i mu h hi hm
  refine S_of ?_
  have c5 := callD_at (G := G.tab n P q) (mu := mu) h5 (ds := [tI ws, .int w]) a5.symm (at_check_text h)
  have c1 := callD_at (G := G.tab n P q) (mu := mu) h1 (ds := [.int (i : Int), .int 0, .int ((ws.length : Int) - 1)]) a1.symm (at_in_range rfl)
  have hr : inR 0 ((ws.length : Int) - 1) (.int (i : Int)) = true := by simp [inR]; omega
  rw [hr] at c1
  have c10 := callD_at (G := G.tab n P q) (mu := mu) h10 (ds := [tI ws, .int w, .int 0]) a10.symm (at_starts_of (i := 0) h (Nat.zero_le _))
  have hst : startE N_longest_length.length [tI ws, .int w, .int (i : Int)] = [some (.dat (tI ws)), some (.dat (.int w)), some (.dat (.int (i : Int))), none] := rfl
  rw [hst, c_longest_length]
  have e1 : arith .sub (ws.length : Int) 1 = some ((ws.length : Int) - 1) := rfl
  refine wp_drop (mu1 := mu) (d := .non) (by simp [c5]) ?_
  refine wp_skip ?_ ?_
  · simp only [tI] at c1 ⊢
    simp [c1, e1]
  refine wp_put (mu1 := mu) (d := .int ((starts ws w 0).length : Int)) ?_ ?_
  · simp only [tI] at c10 ⊢
    simp [c10, nI_len]
  have hcl := fun (xs : List Int) (m : Store) => clo_len (G := G.tab n P q) (rho := [some (.dat (tI ws)), some (.dat (.int w)), some (.dat (.int (i : Int))), some (.dat (.int ((starts ws w 0).length : Int)))]) (lines := ((starts ws w 0).length : Int)) (j := 3) rfl xs m
  have hw1 := h.one
  have hw2 := h.hi
  rw [wp_seq]
  refine ⟨[tI ws, .int (i : Int), .int w], mu, n, P, q, HF, ends (sameL ws w i), mu, .int ((sameL ws w i).getLastD 0), by simp, rfl, hm, h33, a33.symm, fun f => ?_, ?_, ?_⟩
  · refine hh f _ ws i w _ mu h.v.1 (by omega) hw2 (fun l hl => subW_VX h hi hl) fun l hl => ?_
    refine Eq.trans (hcl _ mu) ?_
    rw [nI_len]
    congr 3
    simp only [decide_eq_decide]
    exact ⟨fun h => by omega, fun h => by omega⟩
  · have hne := sameL_ne h hi
    cases hx : sameL ws w i with
    | nil => exact absurd hx hne
    | cons x r => exact ⟨_, rfl, rfl⟩
  · exact ⟨rfl, rfl⟩

/-! ### free places -/
def freeP (ws : List Int) (w l : Int) : List Int := (rngI 0 (ws.length + 1)).filter fun k => decide ((starts (insW ws k.toNat l) w 0).length = (starts ws w 0).length)
def S_free (F : Fn) : Prop := ∀ (ws : List Int) (w l : Int) (mu : Store), VX ws w → ws.length < 60 → 1 ≤ l → l ≤ 40 → l ≤ w → F [tI ws, .int w, .int l] mu = some (.ok (.lst ((freeP ws w l).map .int)) mu)
def S_freeC (F : Fn) : Prop := ∀ (ws : List Int) (w l : Int) (mu : Store), VX ws w → ws.length < 60 → 1 ≤ l → l ≤ 40 → l ≤ w → F [tI ws, .int w, .int l] mu = some (.ok (.ref mu.length) (mu ++ [.lst ((freeP ws w l).map .int)]))
theorem free_body {G : Gam} {rest : Cm} {D : DE} (h5 : G.fn 5 = some F_check_text) (a5 : G.ar 5 = 2) (h1 : G.fn 1 = some F_in_range) (a1 : G.ar 1 = 3) (g0 : G.gc 0 = some 60) (g1 : G.gc 1 = some 40) (h10 : G.fn 10 = some F_starts_of) (a10 : G.ar 10 = 3)
    {ws : List Int} {w l : Int} {mu : Store} (h : VX ws w) (hn : ws.length < 60) (l1 : 1 ≤ l) (l2 : l ≤ 40) (l3 : l ≤ w) (hrest : ∀ s, wpS G rest D [some (.dat (tI ws)), some (.dat (.int w)), some (.dat (.int l)), some (.dat (.int ((starts ws w 0).length : Int))), some (.own (.lst ((freeP ws w l).map .int))), s] mu) :
    wpS G (.seq (.ex (.call 5 (.acons (.var 0) (.acons (.var 1) .anil))))
  (.seq (.ite (.or (.acons (.not (.call 1 (.acons (.var 2) (.acons (.int 1) (.acons (.blt .min (.acons (.glob 1) (.acons (.var 1) .anil))) .anil))))) (.acons (.cmp .eq (.blt .len (.acons (.var 0) .anil)) (.glob 0)) .anil)))
  (.seq .never
  .nil)
  .nil)
  (.seq (.asg 3 (.dat (.blt .len (.acons (.call 10 (.acons (.var 0) (.acons (.var 1) (.acons (.int 0) .anil)))) .anil))))
  (.seq (.asg 4 (.lst (.lst .anil)))
  (.seq (.loop (.nm 5) (.range1 (.op .add (.blt .len (.acons (.var 0) .anil)) (.int 1)))
  (.seq (.ite (.cmp .eq (.blt .len (.acons (.call 10 (.acons (.op .add (.op .add (.slc (.var 0) .anil (.acons (.var 5) .anil)) (.tup (.acons (.var 2) .anil))) (.slc (.var 0) (.acons (.var 5) .anil) .anil)) (.acons (.var 1) (.acons (.int 0) .anil)))) .anil)) (.var 3))
  (.seq (.app 4 (.var 5))
  .nil)
  .nil)
  .nil))
  rest))))) D [some (.dat (tI ws)), some (.dat (.int w)), some (.dat (.int l)), none, none, none] mu := by
  have c5 := callD_at (G := G) (mu := mu) h5 (ds := [tI ws, .int w]) a5.symm (at_check_text h)
  have c1 := callD_at (G := G) (mu := mu) h1 (ds := [.int l, .int 1, .int (min 40 w)]) a1.symm (at_in_range rfl)
  have hr : inR 1 (min 40 w) (.int l) = true := by simp [inR]; omega
  rw [hr] at c1
  have c10 := fun (xs : List Int) (hx : VX xs w) => callD_at (G := G) (mu := mu) h10 (ds := [tI xs, .int w, .int 0]) a10.symm (at_starts_of (i := 0) hx (Nat.zero_le _))
  refine wp_drop (mu1 := mu) (d := .non) (by simp [c5]) ?_
  refine wp_skip ?_ ?_
  · have hne : ¬ ((ws.length : Int) = 60) := by omega
    simp [c1, g0, g1, tI, hne]
  refine wp_put (mu1 := mu) (d := .int ((starts ws w 0).length : Int)) ?_ ?_
  · have := c10 ws h
    simp only [tI] at this ⊢
    simp [this, nI_len]
  refine wp_putL (ds := []) (mu1 := mu) (by simp) ?_
  have hsm : smallI ((ws.length : Int) + 1) := ⟨by omega, by omega⟩
  refine wp_filt (o := 4) (mu1 := mu) (ns := rngI 0 (ws.length + 1)) (fun k => decide ((starts (insW ws k.toNat l) w 0).length = (starts ws w 0).length)) (by simp) rfl (by decide) (by rw [rngI_len]; omega) ?_ ?_ ?_
  · have e : ((ws.length : Int) + 1).toNat = ws.length + 1 := by omega
    simp only [tI]
    simp [hsm, e]
    rw [← rangeD_I]
  · intro x acc D' hx hacc hD
    obtain ⟨x0, x1⟩ := mem_rngI.mp hx
    obtain ⟨k, rfl⟩ : ∃ k : Nat, x = k := ⟨x.toNat, by omega⟩
    have hk : k ≤ ws.length := by omega
    have hi := ev_ins (G := G) (mu := mu) (rho := [some (.dat (tI ws)), some (.dat (.int w)), some (.dat (.int l)), some (.dat (.int ((starts ws w 0).length : Int))), some (.own (.lst (acc.map .int))), some (.dat (.int (k : Int)))]) (a := 0) (b := 5) (c := 2) (ws := ws) (i := k) (l := l) rfl rfl rfl (by omega)
    have hc := c10 (insW ws k l) (insW_VX h hn hk l1 l2 l3)
    show wpS G _ D' [some (.dat (tI ws)), some (.dat (.int w)), some (.dat (.int l)), some (.dat (.int ((starts ws w 0).length : Int))), some (.own (.lst (acc.map .int))), some (.dat (.int (k : Int)))] mu
    refine wp_pick (b := decide ((starts (insW ws k l) w 0).length = (starts ws w 0).length)) ?_ rfl rfl hacc ?_
    · have hA : evA G (.acons (.op .add (.op .add (.slc (.var 0) .anil (.acons (.var 5) .anil)) (.tup (.acons (.var 2) .anil))) (.slc (.var 0) (.acons (.var 5) .anil) .anil)) (.acons (.var 1) (.acons (.int 0) .anil))) [some (.dat (tI ws)), some (.dat (.int w)), some (.dat (.int l)), some (.dat (.int ((starts ws w 0).length : Int))), some (.own (.lst (acc.map .int))), some (.dat (.int (k : Int)))] mu = some ([tI (insW ws k l), .int w, .int 0], mu) := by
        show bdD (ev G _ _ mu) _ = _
        rw [hi]
        simp
      have hE : ev G (.call 10 (.acons (.op .add (.op .add (.slc (.var 0) .anil (.acons (.var 5) .anil)) (.tup (.acons (.var 2) .anil))) (.slc (.var 0) (.acons (.var 5) .anil) .anil)) (.acons (.var 1) (.acons (.int 0) .anil)))) [some (.dat (tI ws)), some (.dat (.int w)), some (.dat (.int l)), some (.dat (.int ((starts ws w 0).length : Int))), some (.own (.lst (acc.map .int))), some (.dat (.int (k : Int)))] mu = some (.dat (tI (nI (starts (insW ws k l) w 0))), mu) := by
        show bd (evA G _ _ mu) _ = _
        rw [hA]
        exact hc
      show bd (ev G (.blt .len (.acons (.call 10 _) .anil)) _ mu) _ = _
      have hL : ev G (.blt .len (.acons (.call 10 (.acons (.op .add (.op .add (.slc (.var 0) .anil (.acons (.var 5) .anil)) (.tup (.acons (.var 2) .anil))) (.slc (.var 0) (.acons (.var 5) .anil) .anil)) (.acons (.var 1) (.acons (.int 0) .anil)))) .anil)) [some (.dat (tI ws)), some (.dat (.int w)), some (.dat (.int l)), some (.dat (.int ((starts ws w 0).length : Int))), some (.own (.lst (acc.map .int))), some (.dat (.int (k : Int)))] mu = some (.dat (.int ((starts (insW ws k l) w 0).length : Int)), mu) := by
        show bd (bd (ev G (.call 10 _) _ mu) _) _ = _
        rw [hE]
        simp [tI, nI_len]
      rw [hL]
      simp
      exact ⟨fun h => by omega, fun h => by omega⟩
    · simpa using hD
  · intro s
    exact hrest s
theorem ok_free (G : Gam) (h5 : G.fn 5 = some F_check_text) (a5 : G.ar 5 = 2) (h1 : G.fn 1 = some F_in_range) (a1 : G.ar 1 = 3) (g0 : G.gc 0 = some 60) (g1 : G.gc 1 = some 40) (h10 : G.fn 10 = some F_starts_of) (a10 : G.ar 10 = 3) : S_free (mkB G c_free_places N_free_places.length) := by
  intro ws w l mu h hn l1 l2 l3
  refine S_of ?_
  rw [c_free_places]
  refine free_body h5 a5 h1 a1 g0 g1 h10 a10 h hn l1 l2 l3 fun s => ?_
  simp
theorem ok_freeC (G : Gam) (h5 : G.fn 5 = some F_check_text) (a5 : G.ar 5 = 2) (h1 : G.fn 1 = some F_in_range) (a1 : G.ar 1 = 3) (g0 : G.gc 0 = some 60) (g1 : G.gc 1 = some 40) (h10 : G.fn 10 = some F_starts_of) (a10 : G.ar 10 = 3) : S_freeC (mkB G c_free_places_c N_free_places_c.length) := by
  intro ws w l mu h hn l1 l2 l3
  obtain ⟨d', mu', e1, e2, e3⟩ := mkB_at (G := G) (c := c_free_places_c) (n := N_free_places_c.length) (ds := [tI ws, .int w, .int l]) (mu := mu) (Post := fun d u => d = .ref mu.length ∧ u = mu ++ [.lst ((freeP ws w l).map .int)]) (by
    rw [c_free_places_c]
    refine free_body h5 a5 h1 a1 g0 g1 h10 a10 h hn l1 l2 l3 fun s => ?_
    simp)
  rw [e1, e2, e3]
end Lin

set_option maxHeartbeats 1000000
/-! Laws, part F: the loop over the bags, tables in the store. -/
namespace Lin
open PySem PySem.Spec

/-- the tables stand first, behind them bags -/
structure StT (t mu : Store) : Prop where
  tab : ∀ n, n < t.length → mu[n]? = t[n]?
  bag : ∀ n c, t.length ≤ n → mu[n]? = some c → ∃ a b q : Int, c = .lst [.int a, .int b, .int q]
theorem StT.fr {t mu mu' : Store} {n c : Nat} (s : StT t mu) (f : Fr mu mu' n) (hn : t.length ≤ n) (b : Bag mu' n c) : StT t mu' := by
  refine ⟨fun m hm => (f.2 m (by omega)).trans (s.tab m hm), fun m x hm hx => ?_⟩
  by_cases e : m = n
  · subst e
    obtain ⟨a, p, q, h, _⟩ := b
    rw [h] at hx
    cases hx
    exact ⟨a, p, q, rfl⟩
  · rw [f.2 m e] at hx
    exact s.bag m x hm hx
theorem StT.flat {ps : List (Addr × Str)} {mu : Store} (s : StT (tabsS 0 ps) mu) : flatS mu := fun m c hc => by
  by_cases h : m < (tabsS 0 ps).length
  · rw [s.tab m h] at hc
    obtain ⟨p, _, rfl⟩ := tabsS_inv 0 ps m c hc
    simp [flatC]
  · obtain ⟨a, b, q, rfl⟩ := s.bag m c (by omega) hc
    rfl
theorem flat_snoc {mu : Store} {ns : List Int} (h : flatS mu) : flatS (mu ++ [.lst (ns.map .int)]) := fun m c hc => by
  by_cases z : m < mu.length
  · rw [List.getElem?_append_left z] at hc
    exact h m c hc
  · rw [List.getElem?_append_right (by omega)] at hc
    cases hm : m - mu.length with
    | zero =>
      rw [hm] at hc
      cases hc
      show (ns.map Dat.int).all flatD = true
      rw [List.all_eq_true]
      intro x hx
      obtain ⟨i, _, rfl⟩ := List.mem_map.mp hx
      rfl
    | succ j => rw [hm] at hc; cases hc
/-- the law's loop over its bags -/
theorem law_runT {G : Gam} {Fb : Fn} (h53 : G.fn 53 = some Fb) (a53 : G.ar 53 = 2) (hb : S_bagsT Fb) {c body rest : Cm} (N most : Nat) (hm : most ≤ 60) (hc : c = .seq (.loop (.nm 1) (.items (.call 53 (.acons (.var 0) (.acons (.int (most : Int)) .anil)))) body) rest) (t : Store) (ns : List Int)
    (hbody : ∀ (n : Nat) (mu : Store) (s : List (Option Slot)) (D : DE), s.length = N → Bag mu n 60000 → t.length ≤ n → StT t mu → (∀ s' mu', s'.length = N → Fr mu mu' n → StT t mu' → D.nx (some (.dat (.lst (ns.map .int))) :: some (.dat (.ref n)) :: s') mu') → wpS G body D (some (.dat (.lst (ns.map .int))) :: some (.dat (.ref n)) :: s) mu)
    (hrest : ∀ s mu, s.length = N + 1 → StT t mu → wpS G rest { nx := fun _ _ => False, rt := fun d _ => d = .bl true } (some (.dat (.lst (ns.map .int))) :: s) mu) :
    ∃ mu', mkB G c (N + 2) [.lst (ns.map .int)] t = some (.ok (.bl true) mu') := by
  have key := mkB_at (G := G) (c := c) (n := N + 2) (ds := [.lst (ns.map .int)]) (mu := t) (Post := fun d mu' => d = .bl true) ?_
  · obtain ⟨d, mu', h1, rfl⟩ := key
    exact ⟨mu', h1⟩
  obtain ⟨nb, mub, fb, hbl, hbt, hbb⟩ := hb t ns most hm
  have cb := callD_at (G := G) (mu := t) h53 (ds := [.lst (ns.map .int), .int (most : Int)]) a53.symm fb
  subst hc
  have hst : startE (N + 2) [.lst (ns.map .int)] = some (.dat (.lst (ns.map .int))) :: List.replicate (N + 1) none := by
    unfold startE
    simp
  rw [hst]
  have h0 : StT t mub := ⟨hbt, fun m x hm hx => by
    have hl := (List.getElem?_eq_some_iff.mp hx).1
    obtain ⟨a, p, q, h, _⟩ := hbb (m - t.length) (by omega)
    rw [show t.length + (m - t.length) = m by omega, hx] at h
    exact ⟨a, p, q, Option.some.inj h⟩⟩
  refine wp_fseq (xs := (List.range nb).map fun i => .ref (t.length + i)) (mu1 := mub) (by simp [cb]) (fun xs rho mu => ∃ (s : List (Option Slot)) (ks : List Nat), s.length = N + 1 ∧ rho = some (.dat (.lst (ns.map .int))) :: s ∧ xs = ks.map .ref ∧ ks.Nodup ∧ StT t mu ∧ ∀ n ∈ ks, t.length ≤ n ∧ Bag mu n 60000) ?_ ?_ ?_
  · refine ⟨_, (List.range nb).map fun i => t.length + i, by simp, rfl, by rw [List.map_map]; rfl, ?_, h0, fun n hn => ?_⟩
    · refine List.Pairwise.map _ (fun a b h => ?_) List.nodup_range
      omega
    · obtain ⟨i, hi, rfl⟩ := List.mem_map.mp hn
      exact ⟨by omega, hbb i (List.mem_range.mp hi)⟩
  · rintro x xs rho mu ⟨s, ks, hs, rfl, hks, hnd, hS, hB⟩
    obtain ⟨n, kr, rfl, rfl, rfl⟩ : ∃ n kr, ks = n :: kr ∧ x = .ref n ∧ xs = kr.map .ref := by
      cases ks with
      | nil => simp at hks
      | cons n kr =>
        simp at hks
        exact ⟨n, kr, rfl, hks.1, hks.2⟩
    obtain ⟨a, s, rfl⟩ : ∃ a s', s = a :: s' := by
      cases s with
      | nil => simp at hs
      | cons a s' => exact ⟨a, s', rfl⟩
    refine ⟨_, rfl, fun D' hD _ _ => ?_⟩
    obtain ⟨hn, hBn⟩ := hB n List.mem_cons_self
    refine hbody n mu s D' (by simpa using hs) hBn hn hS fun s' mu' hs' hF hS' => hD _ _ ⟨some (.dat (.ref n)) :: s', kr, by simp [hs'], rfl, rfl, (List.nodup_cons.mp hnd).2, hS', fun k hk => ⟨(hB k (List.mem_cons_of_mem _ hk)).1, (hB k (List.mem_cons_of_mem _ hk)).2.fr hF fun e => (List.nodup_cons.mp hnd).1 (e ▸ hk)⟩⟩
  · rintro rho mu ⟨s, ks, hs, rfl, -, -, hS, -⟩
    exact wp_mono G (hrest s mu hs hS) fun o h => by
      cases o with
      | nx r u => exact h.elim
      | rt d u => exact h
      | bk r u => exact h.elim
      | ct r u => exact h.elim
end Lin

set_option maxHeartbeats 4000000
/-! The law k15. -/
namespace Lin
open PySem PySem.Spec

theorem ev_same {G : Gam} {rho : Env} {mu : Store} {f b c : Nat} {S : E} {xs : List Int} {w : Int} {st : List Nat} {n : Nat} (hS : ev G S rho mu = some (.dat (tI xs), mu)) (hc : callD G f [tI xs, .int w, .int 0] mu = some (.dat (tI (nI st)), mu)) (hb : rho[b]? = some (some (.dat (.int w)))) (hl : rho[c]? = some (some (.dat (.int (n : Int))))) :
    ev G (.cmp .eq (.blt .len (.acons (.call f (.acons S (.acons (.var b) (.acons (.int 0) .anil)))) .anil)) (.var c)) rho mu = some (.dat (.bl (decide (st.length = n))), mu) := by
  have hA : evA G (.acons S (.acons (.var b) (.acons (.int 0) .anil))) rho mu = some ([tI xs, .int w, .int 0], mu) := by
    show bdD (ev G S rho mu) _ = _
    rw [hS]
    simp [hb]
  have hE : ev G (.call f (.acons S (.acons (.var b) (.acons (.int 0) .anil)))) rho mu = some (.dat (tI (nI st)), mu) := by
    show bd (evA G _ rho mu) _ = _
    rw [hA]
    exact hc
  have hL : ev G (.blt .len (.acons (.call f (.acons S (.acons (.var b) (.acons (.int 0) .anil)))) .anil)) rho mu = some (.dat (.int (st.length : Int)), mu) := by
    show bd (bd (ev G (.call f _) rho mu) _) _ = _
    rw [hE]
    simp [tI, nI_len]
  show bd (ev G (.blt .len _) rho mu) _ = _
  rw [hL]
  simp [hl]
  exact ⟨fun h => by omega, fun h => by omega⟩
theorem wp_put2L {G : Gam} {e1 e2 : E} {i j : Nat} {b : Cm} {D : DE} {rho : Env} {mu mu1 mu2 : Store} {d1 : Dat} {ds : List Dat} (h : ev G e1 rho mu = some (.dat d1, mu1)) (h' : ev G e2 rho mu1 = some (.dat (.lst ds), mu2)) (h2 : wpS G b D ((rho.set i (some (.dat d1))).set j (some (.own (.lst ds)))) mu2) : wpS G (.seq (.par2 i j (.dat e1) (.lst e2)) b) D rho mu := by
  simp [h, h', h2]
theorem k15_ok (G : Gam) {Fb Fw Fx Ft Fs Fg Fl Ff Fc : Fn} {P : Addr} {q : Str} (h53 : G.fn 53 = some Fb) (a53 : G.ar 53 = 2) (hb : S_bagsT Fb) (h59 : G.fn 59 = some Fw) (a59 : G.ar 59 = 2) (hw : S_words Fw) (h68 : G.fn 68 = some Fx) (a68 : G.ar 68 = 2) (hx : S_width Fx)
    (h52 : G.fn 52 = some Ft) (a52 : G.ar 52 = 2) (htk : S_take Ft) (h54 : G.fn 54 = some Fs) (a54 : G.ar 54 = 2) (hs : S_same 3 Fs) (h74 : G.fn 74 = some Fg) (a74 : G.ar 74 = 3) (hg : S_greedy Fg) (h34 : G.fn 34 = some Fl) (a34 : G.ar 34 = 3) (hlg : S_longest 0 P q Fl)
    (h35 : G.fn 35 = some Ff) (a35 : G.ar 35 = 3) (hf : S_free Ff) (h97 : G.fn 97 = some Fc) (a97 : G.ar 97 = 3) (hfc : S_freeC Fc) (ns : List Int) : ∃ mu', mkB G c_law_k15 N_law_k15.length [.lst (ns.map .int)] (tabsS 0 [(P, q)]) = some (.ok (.bl true) mu') := by
  refine law_runT (rest := .seq (.ret (.cmp .eq (.call 35 (.acons (.tup .anil) (.acons (.int 4) (.acons (.int 4) .anil)))) (.lst .anil))) .nil) h53 a53 hb 10 6 (by omega) rfl (tabsS 0 [(P, q)]) ns ?_ ?_
  case refine_2 =>
    intro s mu hs hS
    have hX : VX [] 4 := ⟨⟨by decide, fun x hx => (nomatch hx)⟩, fun x hx => (nomatch hx), by decide, by decide⟩
    have c := callD_at (G := G) (mu := mu) h35 (ds := [tI [], .int 4, .int 4]) a35.symm (hf [] 4 4 mu hX (by decide) (by decide) (by decide) (by decide))
    have e : freeP [] 4 4 = [] := by decide +kernel
    rw [e] at c
    simp only [tI, List.map_nil] at c
    have c0 : 0 ≤ cap := by decide
    have hn : now (some (.dat (.lst (ns.map .int))) :: s) mu (.dat (.lst [])) = some (.lst []) := rfl
    have he : eqD (.lst []) (.lst []) = some true := by simpa using eqD_lnil []
    simp [c, hn, he]
  intro n mu s D hsl hB hn hS hD
  obtain ⟨s2, s3, s4, s5, s6, s7, s8, s9, s10, s11, rfl⟩ := len10 hsl
  obtain ⟨ws, mu1, f1, hv, hne, hlen, hB1, hF1⟩ := hw n 40 mu 60000 (by omega) (by omega) (by omega) hB
  have c1 := callD_at (G := G) (mu := mu) h59 (ds := [.ref n, .int 40]) a59.symm f1
  obtain ⟨w, mu2, f2, hX, hB2, hF2⟩ := hx n ws mu1 _ hv hne (by omega) hB1
  have c2 := callD_at (G := G) (mu := mu1) h68 (ds := [.ref n, tI ws]) a68.symm f2
  have hlp : 0 < ws.length := List.length_pos_iff.mpr hne
  have hcp : ws.length < cap := by rw [cap_val]; omega
  have hw1 := hX.one
  have hw2 := hX.hi
  have hFa := hF1.trans hF2
  have hS2 := hS.fr hFa hn hB2
  refine wp_put (mu1 := mu1) (d := tI ws) (by simp [c1]) ?_
  refine wp_put (mu1 := mu2) (d := .int w) (by simp [c2]) ?_
  have c3 := callD_at (G := G) (mu := mu2) h74 (ds := [tI ws, .int w, .int 0]) a74.symm (hg ws w 0 mu2 hcp (Nat.zero_le _))
  refine wp_put (mu1 := mu2) (d := .int ((starts ws w 0).length : Int)) ?_ ?_
  · simp only [tI] at c3 ⊢
    simp [c3, nI_len]
  have hsm5 : smallI 5 := ⟨by omega, by omega⟩
  refine wp_fseq (xs := rangeD 0 5) (mu1 := mu2) (by simp [hsm5]) (fun xs rho m => ∃ (t5 t6 t7 t8 t9 t10 t11 : Option Slot), xs.length ≤ 5 ∧ rho = [some (.dat (.lst (ns.map .int))), some (.dat (.ref n)), some (.dat (tI ws)), some (.dat (.int w)), some (.dat (.int ((starts ws w 0).length : Int))), t5, t6, t7, t8, t9, t10, t11] ∧ Fr mu m n ∧ Bag m n (60064 + 2 * (5 - xs.length)) ∧ StT (tabsS 0 [(P, q)]) m) ?_ ?_ ?_
  · exact ⟨s5, s6, s7, s8, s9, s10, s11, by rw [rangeD_len]; omega, rfl, hFa, by rw [rangeD_len]; exact hB2.mono (by omega), hS2⟩
  rotate_left
  · rintro rho m ⟨t5, t6, t7, t8, t9, t10, t11, -, rfl, hF, -, hS'⟩
    exact hD _ _ rfl hF hS'
  rintro x xs rho m ⟨t5, t6, t7, t8, t9, t10, t11, hxl, rfl, hF, hBm, hSm⟩
  refine ⟨_, rfl, fun D5 hD5 _ _ => ?_⟩
  rw [List.length_cons] at hxl hBm
  obtain ⟨i, m1, g1, i0, i1, hBi, hFi⟩ := htk n (ws.length : Int) m _ (by omega) (by omega) (by omega) hBm
  have d1 := callD_at (G := G) (mu := m) h52 (ds := [.ref n, .int (ws.length : Int)]) a52.symm g1
  obtain ⟨k, rfl⟩ : ∃ k : Nat, i = k := ⟨i.toNat, by omega⟩
  have hk : k < ws.length := by omega
  have hS1 := hSm.fr hFi hn hBi
  refine wp_put (mu1 := m1) (d := .int (k : Int)) (by simp only [tI] at d1 ⊢; simp [d1]) ?_
  refine wp_putL (ds := []) (mu1 := m1) (by simp) ?_
  have hsm : smallI (min 40 w + 1) := ⟨by omega, by omega⟩
  have hsm1 : smallI 1 := ⟨by omega, by omega⟩
  have h60 : ws.length ≤ 60 := by omega
  -- the lengths that are good
  refine wp_filt (o := 7) (mu1 := m1) (ns := lens w) (fun l => decide ((starts (subW ws k l) w 0).length = (starts ws w 0).length)) (by simp) rfl (by decide) (Nat.le_trans (lens_len w) (by decide)) ?_ ?_ ?_
  · simp [hsm, hsm1]
    unfold lens
    rw [← rangeD_I]
  · intro l acc D' hl hacc hD'
    show wpS G _ D' [some (.dat (.lst (ns.map .int))), some (.dat (.ref n)), some (.dat (tI ws)), some (.dat (.int w)), some (.dat (.int ((starts ws w 0).length : Int))), some (.dat x), some (.dat (.int (k : Int))), some (.own (.lst (acc.map .int))), some (.dat (.int l)), t9, t10, t11] m1
    refine wp_pick (ev_same (ev_sub (a := 2) (b := 6) (c := 8) (ws := ws) (i := k) (l := l) rfl rfl rfl h60) (callD_at (G := G) (mu := m1) h74 (ds := [tI (subW ws k l), .int w, .int 0]) a74.symm (hg (subW ws k l) w 0 m1 (by rw [subW_len l hk]; exact hcp) (Nat.zero_le _))) rfl rfl) rfl rfl hacc ?_
    exact hD'
  intro t8'
  have hsame := sameL_ne hX hk
  have hlast : at? ((sameL ws w k).map Dat.int) (-1) = some (.int ((sameL ws w k).getLastD 0)) := by
    cases hz : sameL ws w k with
    | nil => exact absurd hz hsame
    | cons y r => exact at_last (by
        rw [List.getLast?_map, List.getLastD_eq_getLast?, List.getLast?_eq_some_getLast (by simp)]
        rfl)
  have hm0 : m1[0]? = some (.tab 0 P q) := hS1.tab 0 (by simp [tabsS])
  have d2 := callD_at (G := G) (mu := m1) h34 (ds := [tI ws, .int w, .int (k : Int)]) a34.symm (hlg ws w k m1 hX hk hm0)
  have d3 := callD_at (G := G) (mu := m1) h54 (ds := [.int ((sameL ws w k).getLastD 0), .int ((sameL ws w k).getLastD 0)]) a54.symm (hs _ m1 rfl)
  show wpS G _ D5 [some (.dat (.lst (ns.map .int))), some (.dat (.ref n)), some (.dat (tI ws)), some (.dat (.int w)), some (.dat (.int ((starts ws w 0).length : Int))), some (.dat x), some (.dat (.int (k : Int))), some (.own (.lst ((sameL ws w k).map .int))), t8', t9, t10, t11] m1
  refine wp_skip ?_ ?_
  · generalize (sameL ws w k).getLastD 0 = z at hlast d2 d3
    generalize (sameL ws w k).map Dat.int = zs at hlast
    simp only [tI] at d2 ⊢
    simp [d2, hlast, d3]
  -- a further length
  obtain ⟨j, m2, g2, j0, j1, hBj, hFj⟩ := htk n (min 40 w) m1 _ (by omega) (by omega) (by omega) hBi
  have d4 := callD_at (G := G) (mu := m1) h52 (ds := [.ref n, .int (min 40 w)]) a52.symm g2
  have hSj := hS1.fr hFj hn hBj
  have e1 : arith .add 1 j = some (1 + j) := rfl
  refine wp_put2L (mu1 := m2) (mu2 := m2) (d1 := .int (1 + j)) (ds := []) (by simp only [tI]; simp [d4, e1]) (by simp) ?_
  have hsmP : smallI ((ws.length : Int) + 1) := ⟨by omega, by omega⟩
  have eP : ((ws.length : Int) + 1).toNat = ws.length + 1 := by omega
  have hn60 : ws.length < 60 := by omega
  refine wp_filt (o := 9) (mu1 := m2) (ns := rngI 0 (ws.length + 1)) (fun z => decide ((starts (insW ws z.toNat (1 + j)) w 0).length = (starts ws w 0).length)) (by simp) rfl (by decide) (by rw [rngI_len]; omega) ?_ ?_ ?_
  · simp only [tI]
    simp [hsmP, eP]
    rw [← rangeD_I]
  · intro z acc D' hz hacc hD'
    obtain ⟨z0, z1⟩ := mem_rngI.mp hz
    obtain ⟨r, rfl⟩ : ∃ r : Nat, z = r := ⟨z.toNat, by omega⟩
    have hr : r ≤ ws.length := by omega
    show wpS G _ D' [some (.dat (.lst (ns.map .int))), some (.dat (.ref n)), some (.dat (tI ws)), some (.dat (.int w)), some (.dat (.int ((starts ws w 0).length : Int))), some (.dat x), some (.dat (.int (k : Int))), some (.own (.lst ((sameL ws w k).map .int))), some (.dat (.int (1 + j))), some (.own (.lst (acc.map .int))), some (.dat (.int (r : Int))), t11] m2
    refine wp_pick (ev_same (ev_ins (a := 2) (b := 10) (c := 8) (ws := ws) (i := r) (l := 1 + j) rfl rfl rfl h60) (callD_at (G := G) (mu := m2) h74 (ds := [tI (insW ws r (1 + j)), .int w, .int 0]) a74.symm (hg (insW ws r (1 + j)) w 0 m2 (by rw [insW_len _ hr, cap_val]; omega) (Nat.zero_le _))) rfl rfl) rfl rfl hacc ?_
    exact hD'
  intro t10'
  show wpS G _ D5 [some (.dat (.lst (ns.map .int))), some (.dat (.ref n)), some (.dat (tI ws)), some (.dat (.int w)), some (.dat (.int ((starts ws w 0).length : Int))), some (.dat x), some (.dat (.int (k : Int))), some (.own (.lst ((sameL ws w k).map .int))), some (.dat (.int (1 + j))), some (.own (.lst ((freeP ws w (1 + j)).map .int))), t10', t11] m2
  have hfl := hSj.flat
  have hfl2 := flat_snoc (ns := freeP ws w (1 + j)) hfl
  have fl := hf ws w (1 + j) m2 hX hn60 (by omega) (by omega) (by omega)
  have flc := hfc ws w (1 + j) m2 hX hn60 (by omega) (by omega) (by omega)
  have hl60 : (freeP ws w (1 + j)).length ≤ cap := by
    have h1 : (freeP ws w (1 + j)).length ≤ (rngI 0 (ws.length + 1)).length := List.length_filter_le _ _
    rw [rngI_len] at h1
    rw [cap_val]; omega
  have hokS : okS 3 (.lst ((freeP ws w (1 + j)).map .int)) = true := okS_lI hl60
  have hln : ((freeP ws w (1 + j)).map Dat.int).length < cap := by
    have h1 : (freeP ws w (1 + j)).length ≤ (rngI 0 (ws.length + 1)).length := List.length_filter_le _ _
    rw [rngI_len] at h1
    rw [List.length_map, cap_val]; omega
  generalize (freeP ws w (1 + j)).map Dat.int = fp at *
  have d5 := callD_at (G := G) (mu := m2) h97 (ds := [tI ws, .int w, .int (1 + j)]) a97.symm flc
  have d6 := callD_at (G := G) (mu := m2) h35 (ds := [tI ws, .int w, .int (1 + j)]) a35.symm fl
  have d7 := callD_at (G := G) (mu := m2) h54 (ds := [.lst fp, .lst fp]) a54.symm (hs _ m2 hokS)
  rw [wp_seq]
  refine ⟨m2, fp, by simp [d5], Nat.le_refl _, hfl2, ?_⟩
  refine wp_frzL (ds := fp) rfl ?_
  rw [wp_seq]
  refine ⟨fp, rfl, false, m2, by simp [d7], hfl, ?_⟩
  refine L2.iteF ?_
  refine wp_appL (ds := fp) (mu1 := m2) (d := .non) rfl (by simp) hln ?_
  refine wp_skip (by simp [d6, d7]) ?_
  refine hD5 _ _ ⟨_, _, _, _, _, _, _, by omega, rfl, (hF.trans hFi).trans hFj, hBj.mono (by omega), hSj⟩
end Lin

namespace Lin
open PySem PySem.Spec PyProof.Rows L2
def topS (i : Nat) : Stmt := PySem.Challenge.pw_linesync_k15_whole_changes_without_anoth.main.body.getD i (.Pass ⟨0, 0, 0, 0⟩)
theorem m_is_integer : mB nmG N_is_integer (defScope (topS 10)) c_is_integer (defBody (topS 10)) = true := by decide +kernel
theorem s_is_integer : FnScope N_is_integer P_is_integer (defScope (topS 10)) := ⟨rfl, rfl, rfl, by decide +kernel, rfl, by decide +kernel, by decide +kernel⟩
theorem m_in_range : mB nmG N_in_range (defScope (topS 11)) c_in_range (defBody (topS 11)) = true := by decide +kernel
theorem s_in_range : FnScope N_in_range P_in_range (defScope (topS 11)) := ⟨rfl, rfl, rfl, by decide +kernel, rfl, by decide +kernel, by decide +kernel⟩
theorem m_is_words : mB nmG N_is_words (defScope (topS 12)) c_is_words (defBody (topS 12)) = true := by decide +kernel
theorem s_is_words : FnScope N_is_words P_is_words (defScope (topS 12)) := ⟨rfl, rfl, rfl, by decide +kernel, rfl, by decide +kernel, by decide +kernel⟩
theorem m_check_words : mB nmG N_check_words (defScope (topS 13)) c_check_words (defBody (topS 13)) = true := by decide +kernel
theorem s_check_words : FnScope N_check_words P_check_words (defScope (topS 13)) := ⟨rfl, rfl, rfl, by decide +kernel, rfl, by decide +kernel, by decide +kernel⟩
theorem m_is_width : mB nmG N_is_width (defScope (topS 14)) c_is_width (defBody (topS 14)) = true := by decide +kernel
theorem s_is_width : FnScope N_is_width P_is_width (defScope (topS 14)) := ⟨rfl, rfl, rfl, by decide +kernel, rfl, by decide +kernel, by decide +kernel⟩
theorem m_check_text : mB nmG N_check_text (defScope (topS 15)) c_check_text (defBody (topS 15)) = true := by decide +kernel
theorem s_check_text : FnScope N_check_text P_check_text (defScope (topS 15)) := ⟨rfl, rfl, rfl, by decide +kernel, rfl, by decide +kernel, by decide +kernel⟩
theorem m_next_index : mB nmG N_next_index (defScope (topS 16)) c_next_index (defBody (topS 16)) = true := by decide +kernel
theorem s_next_index : FnScope N_next_index P_next_index (defScope (topS 16)) := ⟨rfl, rfl, rfl, by decide +kernel, rfl, by decide +kernel, by decide +kernel⟩
theorem m_starts_of : mB nmG N_starts_of (defScope (topS 18)) c_starts_of (defBody (topS 18)) = true := by decide +kernel
theorem s_starts_of : FnScope N_starts_of P_starts_of (defScope (topS 18)) := ⟨rfl, rfl, rfl, by decide +kernel, rfl, by decide +kernel, by decide +kernel⟩
theorem m_with_length : mB nmG N_with_length (defScope (topS 20)) c_with_length (defBody (topS 20)) = true := by decide +kernel
theorem s_with_length : FnScope N_with_length P_with_length (defScope (topS 20)) := ⟨rfl, rfl, rfl, by decide +kernel, rfl, by decide +kernel, by decide +kernel⟩
theorem m_lengths_that : mB nmG N_lengths_that (defScope (topS 21)) c_lengths_that (defBody (topS 21)) = true := by decide +kernel
theorem s_lengths_that : FnScope N_lengths_that P_lengths_that (defScope (topS 21)) := ⟨rfl, rfl, rfl, by decide +kernel, rfl, by decide +kernel, by decide +kernel⟩
theorem m_longest_length : mB nmG N_longest_length (defScope (topS 22)) c_longest_length (defBody (topS 22)) = true := by decide +kernel
theorem s_longest_length : FnScope N_longest_length P_longest_length (defScope (topS 22)) := ⟨rfl, rfl, rfl, by decide +kernel, rfl, by decide +kernel, by decide +kernel⟩
theorem m_free_places : mB nmG N_free_places (defScope (topS 23)) c_free_places (defBody (topS 23)) = true := by decide +kernel
theorem s_free_places : FnScope N_free_places P_free_places (defScope (topS 23)) := ⟨rfl, rfl, rfl, by decide +kernel, rfl, by decide +kernel, by decide +kernel⟩
theorem m_free_places_c : mB nmG N_free_places_c (defScope (topS 23)) c_free_places_c (defBody (topS 23)) = true := by decide +kernel
theorem s_free_places_c : FnScope N_free_places_c P_free_places_c (defScope (topS 23)) := ⟨rfl, rfl, rfl, by decide +kernel, rfl, by decide +kernel, by decide +kernel⟩
theorem m_law_well : mB nmG N_law_well (defScope (topS 25)) c_law_well (defBody (topS 25)) = true := by decide +kernel
theorem s_law_well : FnScope N_law_well P_law_well (defScope (topS 25)) := ⟨rfl, rfl, rfl, by decide +kernel, rfl, by decide +kernel, by decide +kernel⟩
theorem m_law_take : mB nmG N_law_take (defScope (topS 26)) c_law_take (defBody (topS 26)) = true := by decide +kernel
theorem s_law_take : FnScope N_law_take P_law_take (defScope (topS 26)) := ⟨rfl, rfl, rfl, by decide +kernel, rfl, by decide +kernel, by decide +kernel⟩
theorem m_law_bags : mB nmG N_law_bags (defScope (topS 27)) c_law_bags (defBody (topS 27)) = true := by decide +kernel
theorem s_law_bags : FnScope N_law_bags P_law_bags (defScope (topS 27)) := ⟨rfl, rfl, rfl, by decide +kernel, rfl, by decide +kernel, by decide +kernel⟩
theorem m_law_same : mB nmG N_law_same (defScope (topS 28)) c_law_same (defBody (topS 28)) = true := by decide +kernel
theorem s_law_same : FnScope N_law_same P_law_same (defScope (topS 28)) := ⟨rfl, rfl, rfl, by decide +kernel, rfl, by decide +kernel, by decide +kernel⟩
theorem m_law_words : mB nmG N_law_words (defScope (topS 29)) c_law_words (defBody (topS 29)) = true := by decide +kernel
theorem s_law_words : FnScope N_law_words P_law_words (defScope (topS 29)) := ⟨rfl, rfl, rfl, by decide +kernel, rfl, by decide +kernel, by decide +kernel⟩
theorem m_law_width : mB nmG N_law_width (defScope (topS 30)) c_law_width (defBody (topS 30)) = true := by decide +kernel
theorem s_law_width : FnScope N_law_width P_law_width (defScope (topS 30)) := ⟨rfl, rfl, rfl, by decide +kernel, rfl, by decide +kernel, by decide +kernel⟩
theorem m_law_fit : mB nmG N_law_fit (defScope (topS 31)) c_law_fit (defBody (topS 31)) = true := by decide +kernel
theorem s_law_fit : FnScope N_law_fit P_law_fit (defScope (topS 31)) := ⟨rfl, rfl, rfl, by decide +kernel, rfl, by decide +kernel, by decide +kernel⟩
theorem m_law_end : mB nmG N_law_end (defScope (topS 32)) c_law_end (defBody (topS 32)) = true := by decide +kernel
theorem s_law_end : FnScope N_law_end P_law_end (defScope (topS 32)) := ⟨rfl, rfl, rfl, by decide +kernel, rfl, by decide +kernel, by decide +kernel⟩
theorem m_law_greedy : mB nmG N_law_greedy (defScope (topS 33)) c_law_greedy (defBody (topS 33)) = true := by decide +kernel
theorem s_law_greedy : FnScope N_law_greedy P_law_greedy (defScope (topS 33)) := ⟨rfl, rfl, rfl, by decide +kernel, rfl, by decide +kernel, by decide +kernel⟩
theorem m_law_k15 : mB nmG N_law_k15 (defScope (topS 34)) c_law_k15 (defBody (topS 34)) = true := by decide +kernel
theorem s_law_k15 : FnScope N_law_k15 P_law_k15 (defScope (topS 34)) := ⟨rfl, rfl, rfl, by decide +kernel, rfl, by decide +kernel, by decide +kernel⟩
def gcL : Nat → Option Int
  | 0 => some 60
  | 1 => some 40
  | 2 => some 2500
  | _ => none
def arL : Nat → Nat
  | 0 => 1
  | 1 => 3
  | 2 => 1
  | 3 => 1
  | 4 => 2
  | 5 => 2
  | 9 => 3
  | 10 => 3
  | 32 => 3
  | 33 => 4
  | 34 => 3
  | 35 => 3
  | 97 => 3
  | 51 => 2
  | 52 => 2
  | 53 => 2
  | 54 => 2
  | 59 => 2
  | 68 => 2
  | 72 => 4
  | 73 => 3
  | 74 => 3
  | 64 => 1
  | _ => 0
noncomputable section
def G0 (P0 : Addr) : Gam := { fn := fun _ => none, ar := arL, gc := gcL, me := fun _ => none, ed := false }
def G1 (P0 : Addr) : Gam := (G0 P0).add 0 F_is_integer
def G2 (P0 : Addr) : Gam := (G1 P0).add 1 F_in_range
def G3 (P0 : Addr) : Gam := (G2 P0).add 2 F_is_words
def G4 (P0 : Addr) : Gam := (G3 P0).add 3 F_check_words
def G5 (P0 : Addr) : Gam := (G4 P0).add 4 F_is_width
def G6 (P0 : Addr) : Gam := (G5 P0).add 5 F_check_text
def G7 (P0 : Addr) : Gam := (G6 P0).add 9 F_next_index
def G8 (P0 : Addr) : Gam := (G7 P0).add 10 F_starts_of
def G9 (P0 : Addr) : Gam := (G8 P0).add 32 (mkB (G8 P0) c_with_length N_with_length.length)
def G10 (P0 : Addr) : Gam := (G9 P0).addH 33 (hfB (G9 P0) c_lengths_that N_lengths_that.length)
def G11 (P0 : Addr) : Gam := (G10 P0).add 34 (mkB ((G10 P0).tab 0 P0 "longest_length.<locals>.<lambda>") c_longest_length N_longest_length.length)
def G12 (P0 : Addr) : Gam := (G11 P0).add 35 (mkB (G11 P0) c_free_places N_free_places.length)
def G13 (P0 : Addr) : Gam := (G12 P0).add 97 (mkB (G12 P0) c_free_places_c N_free_places_c.length)
def G14 (P0 : Addr) : Gam := (G13 P0).add 51 (mkB (G13 P0) c_law_well N_law_well.length)
def G15 (P0 : Addr) : Gam := (G14 P0).add 52 (mkB (G14 P0) c_law_take N_law_take.length)
def G16 (P0 : Addr) : Gam := (G15 P0).add 53 (mkB (G15 P0) c_law_bags N_law_bags.length)
def G16_0 (P0 : Addr) : Gam := (G16 P0).add 54 (mkB (G16 P0) c_law_same N_law_same.length)
def G16_1 (P0 : Addr) : Gam := (G16_0 P0).add 54 (mkB (G16_0 P0) c_law_same N_law_same.length)
def G16_2 (P0 : Addr) : Gam := (G16_1 P0).add 54 (mkB (G16_1 P0) c_law_same N_law_same.length)
def G17 (P0 : Addr) : Gam := (G16_2 P0).add 54 (mkB (G16_2 P0) c_law_same N_law_same.length)
def G18 (P0 : Addr) : Gam := (G17 P0).add 59 (mkB (G17 P0) c_law_words N_law_words.length)
def G19 (P0 : Addr) : Gam := (G18 P0).add 68 (mkB (G18 P0) c_law_width N_law_width.length)
def G20 (P0 : Addr) : Gam := (G19 P0).add 72 (mkB (G19 P0) c_law_fit N_law_fit.length)
def G21 (P0 : Addr) : Gam := (G20 P0).add 73 (mkB (G20 P0) c_law_end N_law_end.length)
def G22 (P0 : Addr) : Gam := (G21 P0).add 74 (mkB (G21 P0) c_law_greedy N_law_greedy.length)
def G23 (P0 : Addr) : Gam := (G22 P0).add 64 (mkB (G22 P0) c_law_k15 N_law_k15.length)
end
theorem good_is_integer (P0 : Addr) : Good (G0 P0) c_is_integer (N_is_integer).length (P_is_integer).length F_is_integer := ok_is_integer (G0 P0)
theorem good_in_range (P0 : Addr) : Good (G1 P0) c_in_range (N_in_range).length (P_in_range).length F_in_range := ok_in_range (G1 P0) rfl rfl
theorem good_is_words (P0 : Addr) : Good (G2 P0) c_is_words (N_is_words).length (P_is_words).length F_is_words := ok_is_words (G2 P0) rfl rfl rfl rfl
theorem good_check_words (P0 : Addr) : Good (G3 P0) c_check_words (N_check_words).length (P_check_words).length F_check_words := ok_check_words (G3 P0) rfl rfl
theorem good_is_width (P0 : Addr) : Good (G4 P0) c_is_width (N_is_width).length (P_is_width).length F_is_width := ok_is_width (G4 P0) rfl rfl rfl
theorem good_check_text (P0 : Addr) : Good (G5 P0) c_check_text (N_check_text).length (P_check_text).length F_check_text := ok_check_text (G5 P0) rfl rfl rfl rfl
theorem good_next_index (P0 : Addr) : Good (G6 P0) c_next_index (N_next_index).length (P_next_index).length F_next_index := ok_next_index (G6 P0)
theorem good_starts_of (P0 : Addr) : Good (G7 P0) c_starts_of (N_starts_of).length (P_starts_of).length F_starts_of := ok_starts_of (G7 P0) rfl rfl
theorem good_with_length (P0 : Addr) : Good (G8 P0) c_with_length (N_with_length).length (P_with_length).length (mkB (G8 P0) c_with_length N_with_length.length) := mkB_good _ _ _ _
theorem sp_with_length (P0 : Addr) : S_wl (mkB (G8 P0) c_with_length N_with_length.length) := ok_wl (G8 P0)
theorem sp_lengths_that (P0 : Addr) : S_that (hfB (G9 P0) c_lengths_that N_lengths_that.length) := ok_that (G9 P0) rfl rfl rfl (sp_with_length P0) rfl rfl
theorem good_longest_length (P0 : Addr) : Good ((G10 P0).tab 0 P0 "longest_length.<locals>.<lambda>") c_longest_length (N_longest_length).length (P_longest_length).length (mkB ((G10 P0).tab 0 P0 "longest_length.<locals>.<lambda>") c_longest_length N_longest_length.length) := mkB_good _ _ _ _
theorem sp_longest_length (P0 : Addr) : S_longest 0 P0 "longest_length.<locals>.<lambda>" (mkB ((G10 P0).tab 0 P0 "longest_length.<locals>.<lambda>") c_longest_length N_longest_length.length) := ok_longest (G10 P0) rfl rfl rfl rfl rfl rfl rfl rfl (sp_lengths_that P0)
theorem good_free_places (P0 : Addr) : Good (G11 P0) c_free_places (N_free_places).length (P_free_places).length (mkB (G11 P0) c_free_places N_free_places.length) := mkB_good _ _ _ _
theorem sp_free_places (P0 : Addr) : S_free (mkB (G11 P0) c_free_places N_free_places.length) := ok_free (G11 P0) rfl rfl rfl rfl rfl rfl rfl rfl
theorem good_free_places_c (P0 : Addr) : Good (G12 P0) c_free_places_c (N_free_places_c).length (P_free_places_c).length (mkB (G12 P0) c_free_places_c N_free_places_c.length) := mkB_good _ _ _ _
theorem sp_free_places_c (P0 : Addr) : S_freeC (mkB (G12 P0) c_free_places_c N_free_places_c.length) := ok_freeC (G12 P0) rfl rfl rfl rfl rfl rfl rfl rfl
theorem good_law_well (P0 : Addr) : Good (G13 P0) c_law_well (N_law_well).length (P_law_well).length (mkB (G13 P0) c_law_well N_law_well.length) := mkB_good _ _ _ _
theorem sp_law_well (P0 : Addr) : S_well (mkB (G13 P0) c_law_well N_law_well.length) := ok_well (G13 P0)
theorem good_law_take (P0 : Addr) : Good (G14 P0) c_law_take (N_law_take).length (P_law_take).length (mkB (G14 P0) c_law_take N_law_take.length) := mkB_good _ _ _ _
theorem sp_law_take (P0 : Addr) : S_take (mkB (G14 P0) c_law_take N_law_take.length) := ok_take (G14 P0)
theorem good_law_bags (P0 : Addr) : Good (G15 P0) c_law_bags (N_law_bags).length (P_law_bags).length (mkB (G15 P0) c_law_bags N_law_bags.length) := mkB_good _ _ _ _
theorem sp_law_bags (P0 : Addr) : S_bagsT (mkB (G15 P0) c_law_bags N_law_bags.length) := ok_bagsT (G15 P0) rfl rfl (sp_law_well P0)
theorem good_law_same_0 (P0 : Addr) : Good (G16 P0) c_law_same (N_law_same).length (P_law_same).length (mkB (G16 P0) c_law_same N_law_same.length) := mkB_good _ _ _ _
theorem sp_law_same_0 (P0 : Addr) : S_same 0 (mkB (G16 P0) c_law_same N_law_same.length) := ok_same0 (G16 P0)
theorem good_law_same_1 (P0 : Addr) : Good (G16_0 P0) c_law_same (N_law_same).length (P_law_same).length (mkB (G16_0 P0) c_law_same N_law_same.length) := mkB_good _ _ _ _
theorem sp_law_same_1 (P0 : Addr) : S_same 1 (mkB (G16_0 P0) c_law_same N_law_same.length) := ok_sameS (G16_0 P0) rfl rfl (sp_law_same_0 P0)
theorem good_law_same_2 (P0 : Addr) : Good (G16_1 P0) c_law_same (N_law_same).length (P_law_same).length (mkB (G16_1 P0) c_law_same N_law_same.length) := mkB_good _ _ _ _
theorem sp_law_same_2 (P0 : Addr) : S_same 2 (mkB (G16_1 P0) c_law_same N_law_same.length) := ok_sameS (G16_1 P0) rfl rfl (sp_law_same_1 P0)
theorem good_law_same (P0 : Addr) : Good (G16_2 P0) c_law_same (N_law_same).length (P_law_same).length (mkB (G16_2 P0) c_law_same N_law_same.length) := mkB_good _ _ _ _
theorem sp_law_same (P0 : Addr) : S_same 3 (mkB (G16_2 P0) c_law_same N_law_same.length) := ok_sameS (G16_2 P0) rfl rfl (sp_law_same_2 P0)
theorem good_law_words (P0 : Addr) : Good (G17 P0) c_law_words (N_law_words).length (P_law_words).length (mkB (G17 P0) c_law_words N_law_words.length) := mkB_good _ _ _ _
theorem sp_law_words (P0 : Addr) : S_words (mkB (G17 P0) c_law_words N_law_words.length) := ok_words (G17 P0) rfl rfl (sp_law_take P0)
theorem good_law_width (P0 : Addr) : Good (G18 P0) c_law_width (N_law_width).length (P_law_width).length (mkB (G18 P0) c_law_width N_law_width.length) := mkB_good _ _ _ _
theorem sp_law_width (P0 : Addr) : S_width (mkB (G18 P0) c_law_width N_law_width.length) := ok_width (G18 P0) rfl rfl (sp_law_take P0)
theorem good_law_fit (P0 : Addr) : Good (G19 P0) c_law_fit (N_law_fit).length (P_law_fit).length (mkB (G19 P0) c_law_fit N_law_fit.length) := mkB_good _ _ _ _
theorem sp_law_fit (P0 : Addr) : S_fit (mkB (G19 P0) c_law_fit N_law_fit.length) := ok_fit (G19 P0)
theorem good_law_end (P0 : Addr) : Good (G20 P0) c_law_end (N_law_end).length (P_law_end).length (mkB (G20 P0) c_law_end N_law_end.length) := mkB_good _ _ _ _
theorem sp_law_end (P0 : Addr) : S_end (mkB (G20 P0) c_law_end N_law_end.length) := ok_end (G20 P0) rfl rfl (sp_law_fit P0)
theorem good_law_greedy (P0 : Addr) : Good (G21 P0) c_law_greedy (N_law_greedy).length (P_law_greedy).length (mkB (G21 P0) c_law_greedy N_law_greedy.length) := mkB_good _ _ _ _
theorem sp_law_greedy (P0 : Addr) : S_greedy (mkB (G21 P0) c_law_greedy N_law_greedy.length) := ok_greedy (G21 P0) rfl rfl (sp_law_end P0)
theorem good_law_k15 (P0 : Addr) : Good (G22 P0) c_law_k15 (N_law_k15).length (P_law_k15).length (mkB (G22 P0) c_law_k15 N_law_k15.length) := mkB_good _ _ _ _
theorem law_true (P0 : Addr) (ns : List Int) (h : ns.length ≤ 63) : ∃ mu', (mkB (G22 P0) c_law_k15 N_law_k15.length) [.lst (ns.map .int)] (tabsS 0 [(P0, "longest_length.<locals>.<lambda>")]) = some (.ok (.bl true) mu') := k15_ok (G22 P0) rfl rfl (sp_law_bags P0) rfl rfl (sp_law_words P0) rfl rfl (sp_law_width P0) rfl rfl (sp_law_take P0) rfl rfl (sp_law_same P0) rfl rfl (sp_law_greedy P0) rfl rfl (sp_longest_length P0) rfl rfl (sp_free_places P0) rfl rfl (sp_free_places_c P0) ns
noncomputable def F_lawX (P0 : Addr) : Fn := (mkB (G22 P0) c_law_k15 N_law_k15.length)
theorem all_mk {l : PySem.W.OpenLaw} {w : World} {K : PySem.W.Frag} {h : Heap} {mg : Str → Option Value} {fa : Addr} (X : K.In h) (G : h.Ns mainGlobals mg) (hfa : mg "law" = some (.ref fa))
    {f0 : Addr} {od0 an0 : Option Addr} {sl0 : Array (Option Value)} {oc0 kV0 dc0 pm0 cd0 ct0 : Value}
    (a0 : PySem.W.nsIn K mainGlobals "is_integer" = some (some (.ref f0))) (l0 : K.lookup f0 = some ⟨oc0, od0, .func (PySem.W.fnOf "is_integer" "is_integer" (defArgs (topS 10)) (defBody (topS 10)) (defScope (topS 10)) .none kV0 dc0 pm0 an0 cd0 ct0), sl0⟩) (c0 : PySem.W.codeIn K cd0 "is_integer" = true) (k0 : PySem.W.keepIn K (.ref f0) = true)
    {f1 : Addr} {od1 an1 : Option Addr} {sl1 : Array (Option Value)} {oc1 kV1 dc1 pm1 cd1 ct1 : Value}
    (a1 : PySem.W.nsIn K mainGlobals "in_range" = some (some (.ref f1))) (l1 : K.lookup f1 = some ⟨oc1, od1, .func (PySem.W.fnOf "in_range" "in_range" (defArgs (topS 11)) (defBody (topS 11)) (defScope (topS 11)) .none kV1 dc1 pm1 an1 cd1 ct1), sl1⟩) (c1 : PySem.W.codeIn K cd1 "in_range" = true) (k1 : PySem.W.keepIn K (.ref f1) = true)
    {f2 : Addr} {od2 an2 : Option Addr} {sl2 : Array (Option Value)} {oc2 kV2 dc2 pm2 cd2 ct2 : Value}
    (a2 : PySem.W.nsIn K mainGlobals "is_words" = some (some (.ref f2))) (l2 : K.lookup f2 = some ⟨oc2, od2, .func (PySem.W.fnOf "is_words" "is_words" (defArgs (topS 12)) (defBody (topS 12)) (defScope (topS 12)) .none kV2 dc2 pm2 an2 cd2 ct2), sl2⟩) (c2 : PySem.W.codeIn K cd2 "is_words" = true) (k2 : PySem.W.keepIn K (.ref f2) = true)
    {f3 : Addr} {od3 an3 : Option Addr} {sl3 : Array (Option Value)} {oc3 kV3 dc3 pm3 cd3 ct3 : Value}
    (a3 : PySem.W.nsIn K mainGlobals "check_words" = some (some (.ref f3))) (l3 : K.lookup f3 = some ⟨oc3, od3, .func (PySem.W.fnOf "check_words" "check_words" (defArgs (topS 13)) (defBody (topS 13)) (defScope (topS 13)) .none kV3 dc3 pm3 an3 cd3 ct3), sl3⟩) (c3 : PySem.W.codeIn K cd3 "check_words" = true) (k3 : PySem.W.keepIn K (.ref f3) = true)
    {f4 : Addr} {od4 an4 : Option Addr} {sl4 : Array (Option Value)} {oc4 kV4 dc4 pm4 cd4 ct4 : Value}
    (a4 : PySem.W.nsIn K mainGlobals "is_width" = some (some (.ref f4))) (l4 : K.lookup f4 = some ⟨oc4, od4, .func (PySem.W.fnOf "is_width" "is_width" (defArgs (topS 14)) (defBody (topS 14)) (defScope (topS 14)) .none kV4 dc4 pm4 an4 cd4 ct4), sl4⟩) (c4 : PySem.W.codeIn K cd4 "is_width" = true) (k4 : PySem.W.keepIn K (.ref f4) = true)
    {f5 : Addr} {od5 an5 : Option Addr} {sl5 : Array (Option Value)} {oc5 kV5 dc5 pm5 cd5 ct5 : Value}
    (a5 : PySem.W.nsIn K mainGlobals "check_text" = some (some (.ref f5))) (l5 : K.lookup f5 = some ⟨oc5, od5, .func (PySem.W.fnOf "check_text" "check_text" (defArgs (topS 15)) (defBody (topS 15)) (defScope (topS 15)) .none kV5 dc5 pm5 an5 cd5 ct5), sl5⟩) (c5 : PySem.W.codeIn K cd5 "check_text" = true) (k5 : PySem.W.keepIn K (.ref f5) = true)
    {f6 : Addr} {od6 an6 : Option Addr} {sl6 : Array (Option Value)} {oc6 kV6 dc6 pm6 cd6 ct6 : Value}
    (a6 : PySem.W.nsIn K mainGlobals "next_index" = some (some (.ref f6))) (l6 : K.lookup f6 = some ⟨oc6, od6, .func (PySem.W.fnOf "next_index" "next_index" (defArgs (topS 16)) (defBody (topS 16)) (defScope (topS 16)) .none kV6 dc6 pm6 an6 cd6 ct6), sl6⟩) (c6 : PySem.W.codeIn K cd6 "next_index" = true) (k6 : PySem.W.keepIn K (.ref f6) = true)
    {f7 : Addr} {od7 an7 : Option Addr} {sl7 : Array (Option Value)} {oc7 kV7 dc7 pm7 cd7 ct7 : Value}
    (a7 : PySem.W.nsIn K mainGlobals "starts_of" = some (some (.ref f7))) (l7 : K.lookup f7 = some ⟨oc7, od7, .func (PySem.W.fnOf "starts_of" "starts_of" (defArgs (topS 18)) (defBody (topS 18)) (defScope (topS 18)) .none kV7 dc7 pm7 an7 cd7 ct7), sl7⟩) (c7 : PySem.W.codeIn K cd7 "starts_of" = true) (k7 : PySem.W.keepIn K (.ref f7) = true)
    {f8 : Addr} {od8 an8 : Option Addr} {sl8 : Array (Option Value)} {oc8 kV8 dc8 pm8 cd8 ct8 : Value}
    (a8 : PySem.W.nsIn K mainGlobals "with_length" = some (some (.ref f8))) (l8 : K.lookup f8 = some ⟨oc8, od8, .func (PySem.W.fnOf "with_length" "with_length" (defArgs (topS 20)) (defBody (topS 20)) (defScope (topS 20)) .none kV8 dc8 pm8 an8 cd8 ct8), sl8⟩) (c8 : PySem.W.codeIn K cd8 "with_length" = true) (k8 : PySem.W.keepIn K (.ref f8) = true)
    {f9 : Addr} {od9 an9 : Option Addr} {sl9 : Array (Option Value)} {oc9 kV9 dc9 pm9 cd9 ct9 : Value}
    (a9 : PySem.W.nsIn K mainGlobals "lengths_that" = some (some (.ref f9))) (l9 : K.lookup f9 = some ⟨oc9, od9, .func (PySem.W.fnOf "lengths_that" "lengths_that" (defArgs (topS 21)) (defBody (topS 21)) (defScope (topS 21)) .none kV9 dc9 pm9 an9 cd9 ct9), sl9⟩) (c9 : PySem.W.codeIn K cd9 "lengths_that" = true) (k9 : PySem.W.keepIn K (.ref f9) = true)
    {f10 : Addr} {od10 an10 : Option Addr} {sl10 : Array (Option Value)} {oc10 kV10 dc10 pm10 ct10 : Value}
    {cT0 PT0 : Addr} {odT0 : Option Addr} {vsT0 : Array Value} {slT0 : Array (Option Value)}
    (a10 : PySem.W.nsIn K mainGlobals "longest_length" = some (some (.ref f10))) (l10 : K.lookup f10 = some ⟨oc10, od10, .func (PySem.W.fnOf "longest_length" "longest_length" (defArgs (topS 22)) (defBody (topS 22)) (defScope (topS 22)) .none kV10 dc10 pm10 an10 (.ref cT0) ct10), sl10⟩) (c10 : PySem.W.codeIn K (.ref cT0) "longest_length" = true) (k10 : PySem.W.keepIn K (.ref f10) = true)
    (qT0 : K.lookup cT0 = some ⟨.type "code", odT0, .fields vsT0, slT0⟩) (pT0 : (vsT0[11]? : Option Value) = some (.ref PT0)) (tT0 : h.get? PT0 = some { cls := .none, data := .fields #[] }) (rT0 : hdB vsT0 cT0 PT0 = true)
    {f11 : Addr} {od11 an11 : Option Addr} {sl11 : Array (Option Value)} {oc11 kV11 dc11 pm11 cd11 ct11 : Value}
    (a11 : PySem.W.nsIn K mainGlobals "free_places" = some (some (.ref f11))) (l11 : K.lookup f11 = some ⟨oc11, od11, .func (PySem.W.fnOf "free_places" "free_places" (defArgs (topS 23)) (defBody (topS 23)) (defScope (topS 23)) .none kV11 dc11 pm11 an11 cd11 ct11), sl11⟩) (c11 : PySem.W.codeIn K cd11 "free_places" = true) (k11 : PySem.W.keepIn K (.ref f11) = true)
    {f12 : Addr} {od12 an12 : Option Addr} {sl12 : Array (Option Value)} {oc12 kV12 dc12 pm12 cd12 ct12 : Value}
    (a12 : PySem.W.nsIn K mainGlobals "free_places" = some (some (.ref f12))) (l12 : K.lookup f12 = some ⟨oc12, od12, .func (PySem.W.fnOf "free_places" "free_places" (defArgs (topS 23)) (defBody (topS 23)) (defScope (topS 23)) .none kV12 dc12 pm12 an12 cd12 ct12), sl12⟩) (c12 : PySem.W.codeIn K cd12 "free_places" = true) (k12 : PySem.W.keepIn K (.ref f12) = true)
    {f13 : Addr} {od13 an13 : Option Addr} {sl13 : Array (Option Value)} {oc13 kV13 dc13 pm13 cd13 ct13 : Value}
    (a13 : PySem.W.nsIn K mainGlobals "_law_well" = some (some (.ref f13))) (l13 : K.lookup f13 = some ⟨oc13, od13, .func (PySem.W.fnOf "_law_well" "_law_well" (defArgs (topS 25)) (defBody (topS 25)) (defScope (topS 25)) .none kV13 dc13 pm13 an13 cd13 ct13), sl13⟩) (c13 : PySem.W.codeIn K cd13 "_law_well" = true) (k13 : PySem.W.keepIn K (.ref f13) = true)
    {f14 : Addr} {od14 an14 : Option Addr} {sl14 : Array (Option Value)} {oc14 kV14 dc14 pm14 cd14 ct14 : Value}
    (a14 : PySem.W.nsIn K mainGlobals "_law_take" = some (some (.ref f14))) (l14 : K.lookup f14 = some ⟨oc14, od14, .func (PySem.W.fnOf "_law_take" "_law_take" (defArgs (topS 26)) (defBody (topS 26)) (defScope (topS 26)) .none kV14 dc14 pm14 an14 cd14 ct14), sl14⟩) (c14 : PySem.W.codeIn K cd14 "_law_take" = true) (k14 : PySem.W.keepIn K (.ref f14) = true)
    {f15 : Addr} {od15 an15 : Option Addr} {sl15 : Array (Option Value)} {oc15 kV15 dc15 pm15 cd15 ct15 : Value}
    (a15 : PySem.W.nsIn K mainGlobals "_law_bags" = some (some (.ref f15))) (l15 : K.lookup f15 = some ⟨oc15, od15, .func (PySem.W.fnOf "_law_bags" "_law_bags" (defArgs (topS 27)) (defBody (topS 27)) (defScope (topS 27)) .none kV15 dc15 pm15 an15 cd15 ct15), sl15⟩) (c15 : PySem.W.codeIn K cd15 "_law_bags" = true) (k15 : PySem.W.keepIn K (.ref f15) = true)
    {f16 : Addr} {od16 an16 : Option Addr} {sl16 : Array (Option Value)} {oc16 kV16 dc16 pm16 cd16 ct16 : Value}
    (a16 : PySem.W.nsIn K mainGlobals "_law_same" = some (some (.ref f16))) (l16 : K.lookup f16 = some ⟨oc16, od16, .func (PySem.W.fnOf "_law_same" "_law_same" (defArgs (topS 28)) (defBody (topS 28)) (defScope (topS 28)) .none kV16 dc16 pm16 an16 cd16 ct16), sl16⟩) (c16 : PySem.W.codeIn K cd16 "_law_same" = true) (k16 : PySem.W.keepIn K (.ref f16) = true)
    {f17 : Addr} {od17 an17 : Option Addr} {sl17 : Array (Option Value)} {oc17 kV17 dc17 pm17 cd17 ct17 : Value}
    (a17 : PySem.W.nsIn K mainGlobals "_law_words" = some (some (.ref f17))) (l17 : K.lookup f17 = some ⟨oc17, od17, .func (PySem.W.fnOf "_law_words" "_law_words" (defArgs (topS 29)) (defBody (topS 29)) (defScope (topS 29)) .none kV17 dc17 pm17 an17 cd17 ct17), sl17⟩) (c17 : PySem.W.codeIn K cd17 "_law_words" = true) (k17 : PySem.W.keepIn K (.ref f17) = true)
    {f18 : Addr} {od18 an18 : Option Addr} {sl18 : Array (Option Value)} {oc18 kV18 dc18 pm18 cd18 ct18 : Value}
    (a18 : PySem.W.nsIn K mainGlobals "_law_width" = some (some (.ref f18))) (l18 : K.lookup f18 = some ⟨oc18, od18, .func (PySem.W.fnOf "_law_width" "_law_width" (defArgs (topS 30)) (defBody (topS 30)) (defScope (topS 30)) .none kV18 dc18 pm18 an18 cd18 ct18), sl18⟩) (c18 : PySem.W.codeIn K cd18 "_law_width" = true) (k18 : PySem.W.keepIn K (.ref f18) = true)
    {f19 : Addr} {od19 an19 : Option Addr} {sl19 : Array (Option Value)} {oc19 kV19 dc19 pm19 cd19 ct19 : Value}
    (a19 : PySem.W.nsIn K mainGlobals "_law_fit" = some (some (.ref f19))) (l19 : K.lookup f19 = some ⟨oc19, od19, .func (PySem.W.fnOf "_law_fit" "_law_fit" (defArgs (topS 31)) (defBody (topS 31)) (defScope (topS 31)) .none kV19 dc19 pm19 an19 cd19 ct19), sl19⟩) (c19 : PySem.W.codeIn K cd19 "_law_fit" = true) (k19 : PySem.W.keepIn K (.ref f19) = true)
    {f20 : Addr} {od20 an20 : Option Addr} {sl20 : Array (Option Value)} {oc20 kV20 dc20 pm20 cd20 ct20 : Value}
    (a20 : PySem.W.nsIn K mainGlobals "_law_end" = some (some (.ref f20))) (l20 : K.lookup f20 = some ⟨oc20, od20, .func (PySem.W.fnOf "_law_end" "_law_end" (defArgs (topS 32)) (defBody (topS 32)) (defScope (topS 32)) .none kV20 dc20 pm20 an20 cd20 ct20), sl20⟩) (c20 : PySem.W.codeIn K cd20 "_law_end" = true) (k20 : PySem.W.keepIn K (.ref f20) = true)
    {f21 : Addr} {od21 an21 : Option Addr} {sl21 : Array (Option Value)} {oc21 kV21 dc21 pm21 cd21 ct21 : Value}
    (a21 : PySem.W.nsIn K mainGlobals "_law_greedy" = some (some (.ref f21))) (l21 : K.lookup f21 = some ⟨oc21, od21, .func (PySem.W.fnOf "_law_greedy" "_law_greedy" (defArgs (topS 33)) (defBody (topS 33)) (defScope (topS 33)) .none kV21 dc21 pm21 an21 cd21 ct21), sl21⟩) (c21 : PySem.W.codeIn K cd21 "_law_greedy" = true) (k21 : PySem.W.keepIn K (.ref f21) = true)
    {f22 : Addr} {od22 an22 : Option Addr} {sl22 : Array (Option Value)} {oc22 kV22 dc22 pm22 cd22 ct22 : Value}
    (a22 : PySem.W.nsIn K mainGlobals "law" = some (some (.ref f22))) (l22 : K.lookup f22 = some ⟨oc22, od22, .func (PySem.W.fnOf "law" "law" (defArgs (topS 34)) (defBody (topS 34)) (defScope (topS 34)) .none kV22 dc22 pm22 an22 cd22 ct22), sl22⟩) (c22 : PySem.W.codeIn K cd22 "law" = true) (k22 : PySem.W.keepIn K (.ref f22) = true)
    {tk0 : Tok} (i0 : PySem.W.nsIn K mainGlobals "MAX_WORDS" = some (some (.int 60 tk0)))
    {tk1 : Tok} (i1 : PySem.W.nsIn K mainGlobals "MAX_LENGTH" = some (some (.int 40 tk1)))
    {tk2 : Tok} (i2 : PySem.W.nsIn K mainGlobals "MAX_WIDTH" = some (some (.int 2500 tk2)))
    (z0 : PySem.W.nsIn K mainGlobals "len" = some none)
    (z1 : PySem.W.nsIn K mainGlobals "sum" = some none)
    (z2 : PySem.W.nsIn K mainGlobals "max" = some none)
    (z3 : PySem.W.nsIn K mainGlobals "min" = some none)
    (z4 : PySem.W.nsIn K mainGlobals "all" = some none)
    (z5 : PySem.W.nsIn K mainGlobals "abs" = some none)
    (z6 : PySem.W.nsIn K mainGlobals "tuple" = some none)
    (z7 : PySem.W.nsIn K mainGlobals "list" = some none)
    (z8 : PySem.W.nsIn K mainGlobals "sorted" = some none)
    (z9 : PySem.W.nsIn K mainGlobals "int" = some none)
    (z10 : PySem.W.nsIn K mainGlobals "bool" = some none)
    (z11 : PySem.W.nsIn K mainGlobals "str" = some none)
    (z12 : PySem.W.nsIn K mainGlobals "range" = some none)
    (z13 : PySem.W.nsIn K mainGlobals "zip" = some none)
    (z14 : PySem.W.nsIn K mainGlobals "enumerate" = some none)
    (z15 : PySem.W.nsIn K mainGlobals "isinstance" = some none)
    (z16 : PySem.W.nsIn K mainGlobals "set" = some none) (ndT : [PT0].Nodup) :
    ∃ K' : PySem.W.Frag, K'.In h ∧ LamX.LawAtS l w K' (L2.CX l.prog w) 26 63 "_law_script" mg fa h := by
  have e := hfa.symm.trans (PySem.W.mg_of X G a22)
  cases e
  have E : Empties h [PT0] := by
    intro P hP
    simp only [List.mem_cons, List.not_mem_nil, or_false] at hP
    rcases hP with rfl
    · exact tT0
  have l0' := wo_lk (Ps := [PT0]) X E l0
  have c0' := wo_cd (Ps := [PT0]) X E c0
  have k0' := wo_kp (Ps := [PT0]) l0'
  have l1' := wo_lk (Ps := [PT0]) X E l1
  have c1' := wo_cd (Ps := [PT0]) X E c1
  have k1' := wo_kp (Ps := [PT0]) l1'
  have l2' := wo_lk (Ps := [PT0]) X E l2
  have c2' := wo_cd (Ps := [PT0]) X E c2
  have k2' := wo_kp (Ps := [PT0]) l2'
  have l3' := wo_lk (Ps := [PT0]) X E l3
  have c3' := wo_cd (Ps := [PT0]) X E c3
  have k3' := wo_kp (Ps := [PT0]) l3'
  have l4' := wo_lk (Ps := [PT0]) X E l4
  have c4' := wo_cd (Ps := [PT0]) X E c4
  have k4' := wo_kp (Ps := [PT0]) l4'
  have l5' := wo_lk (Ps := [PT0]) X E l5
  have c5' := wo_cd (Ps := [PT0]) X E c5
  have k5' := wo_kp (Ps := [PT0]) l5'
  have l6' := wo_lk (Ps := [PT0]) X E l6
  have c6' := wo_cd (Ps := [PT0]) X E c6
  have k6' := wo_kp (Ps := [PT0]) l6'
  have l7' := wo_lk (Ps := [PT0]) X E l7
  have c7' := wo_cd (Ps := [PT0]) X E c7
  have k7' := wo_kp (Ps := [PT0]) l7'
  have l8' := wo_lk (Ps := [PT0]) X E l8
  have c8' := wo_cd (Ps := [PT0]) X E c8
  have k8' := wo_kp (Ps := [PT0]) l8'
  have l9' := wo_lk (Ps := [PT0]) X E l9
  have c9' := wo_cd (Ps := [PT0]) X E c9
  have k9' := wo_kp (Ps := [PT0]) l9'
  have l10' := wo_lk (Ps := [PT0]) X E l10
  have c10' := wo_cd (Ps := [PT0]) X E c10
  have k10' := wo_kp (Ps := [PT0]) l10'
  have l11' := wo_lk (Ps := [PT0]) X E l11
  have c11' := wo_cd (Ps := [PT0]) X E c11
  have k11' := wo_kp (Ps := [PT0]) l11'
  have l12' := wo_lk (Ps := [PT0]) X E l12
  have c12' := wo_cd (Ps := [PT0]) X E c12
  have k12' := wo_kp (Ps := [PT0]) l12'
  have l13' := wo_lk (Ps := [PT0]) X E l13
  have c13' := wo_cd (Ps := [PT0]) X E c13
  have k13' := wo_kp (Ps := [PT0]) l13'
  have l14' := wo_lk (Ps := [PT0]) X E l14
  have c14' := wo_cd (Ps := [PT0]) X E c14
  have k14' := wo_kp (Ps := [PT0]) l14'
  have l15' := wo_lk (Ps := [PT0]) X E l15
  have c15' := wo_cd (Ps := [PT0]) X E c15
  have k15' := wo_kp (Ps := [PT0]) l15'
  have l16' := wo_lk (Ps := [PT0]) X E l16
  have c16' := wo_cd (Ps := [PT0]) X E c16
  have k16' := wo_kp (Ps := [PT0]) l16'
  have l17' := wo_lk (Ps := [PT0]) X E l17
  have c17' := wo_cd (Ps := [PT0]) X E c17
  have k17' := wo_kp (Ps := [PT0]) l17'
  have l18' := wo_lk (Ps := [PT0]) X E l18
  have c18' := wo_cd (Ps := [PT0]) X E c18
  have k18' := wo_kp (Ps := [PT0]) l18'
  have l19' := wo_lk (Ps := [PT0]) X E l19
  have c19' := wo_cd (Ps := [PT0]) X E c19
  have k19' := wo_kp (Ps := [PT0]) l19'
  have l20' := wo_lk (Ps := [PT0]) X E l20
  have c20' := wo_cd (Ps := [PT0]) X E c20
  have k20' := wo_kp (Ps := [PT0]) l20'
  have l21' := wo_lk (Ps := [PT0]) X E l21
  have c21' := wo_cd (Ps := [PT0]) X E c21
  have k21' := wo_kp (Ps := [PT0]) l21'
  have l22' := wo_lk (Ps := [PT0]) X E l22
  have c22' := wo_cd (Ps := [PT0]) X E c22
  have k22' := wo_kp (Ps := [PT0]) l22'
  refine ⟨(wo K [PT0]), wo_in X, PySem.W.fnOf "law" "law" (defArgs (topS 34)) (defBody (topS 34)) (defScope (topS 34)) .none kV22 dc22 pm22 an22 cd22 ct22, [(cT0, PT0)], spOf (wo K [PT0]) (fun _ => 0) 1 (F_lawX PT0), ?_, ?_, ?_, fun s v => .of_eq rfl, fun H a ns hl _ hT hS => ?_, fun base _ _ TB => ?_⟩
  · intro p hp
    simp only [List.mem_cons, List.not_mem_nil, or_false] at hp
    rcases hp with rfl
    · exact tT0
  · intro p hp
    simp only [List.mem_cons, List.not_mem_nil, or_false] at hp
    rcases hp with rfl
    · exact wo_none (by simp) K
  · intro p hp
    simp only [List.mem_cons, List.not_mem_nil, or_false] at hp
    rcases hp with rfl
    · exact hd_of X qT0 rT0
  · refine law_spT (ps := [(PT0, "longest_length.<locals>.<lambda>")]) ndT ?_ hS (law_true PT0 ns hl)
    intro p hp
    simp only [List.mem_cons, List.not_mem_nil, or_false] at hp
    rcases hp with rfl
    · exact hT (cT0, PT0) (by simp)
  have g0 : GOk l.prog w (wo K [PT0]) mg base 0 (G0 PT0) nmG (fun _ => 0) := by
    refine GOk.zero (fun g i e => ?_) (fun x hx => ?_)
    · match g, e with
      | 0, e => exact ⟨_, (Option.some.inj e) ▸ PySem.W.mg_of X G i0⟩
      | 1, e => exact ⟨_, (Option.some.inj e) ▸ PySem.W.mg_of X G i1⟩
      | 2, e => exact ⟨_, (Option.some.inj e) ▸ PySem.W.mg_of X G i2⟩
      | 3, e => cases e
      | 4, e => cases e
      | n + 5, e => cases e
    · simp only [bltAll, List.mem_cons, List.not_mem_nil, or_false] at hx
      rcases hx with rfl | rfl | rfl | rfl | rfl | rfl | rfl | rfl | rfl | rfl | rfl | rfl | rfl | rfl | rfl | rfl | rfl
      · exact PySem.W.mg_none_of X G z0
      · exact PySem.W.mg_none_of X G z1
      · exact PySem.W.mg_none_of X G z2
      · exact PySem.W.mg_none_of X G z3
      · exact PySem.W.mg_none_of X G z4
      · exact PySem.W.mg_none_of X G z5
      · exact PySem.W.mg_none_of X G z6
      · exact PySem.W.mg_none_of X G z7
      · exact PySem.W.mg_none_of X G z8
      · exact PySem.W.mg_none_of X G z9
      · exact PySem.W.mg_none_of X G z10
      · exact PySem.W.mg_none_of X G z11
      · exact PySem.W.mg_none_of X G z12
      · exact PySem.W.mg_none_of X G z13
      · exact PySem.W.mg_none_of X G z14
      · exact PySem.W.mg_none_of X G z15
      · exact PySem.W.mg_none_of X G z16
  have F0 := fun_mk (st := (topS 10)) l0' c0' k0'
  have g1 : GOk l.prog w (wo K [PT0]) mg base 1 (G1 PT0) nmG (fun _ => 0) := g0.add F0 s_is_integer m_is_integer (good_is_integer PT0) (F0.binds (ps := P_is_integer) fun _ _ _ _ _ _ us hl => match us, hl with | [_], _ => rfl) (PySem.W.mg_of X G a0) rfl
  have F1 := fun_mk (st := (topS 11)) l1' c1' k1'
  have g2 : GOk l.prog w (wo K [PT0]) mg base 2 (G2 PT0) nmG (fun _ => 0) := g1.add F1 s_in_range m_in_range (good_in_range PT0) (F1.binds (ps := P_in_range) fun _ _ _ _ _ _ us hl => match us, hl with | [_, _, _], _ => rfl) (PySem.W.mg_of X G a1) rfl
  have F2 := fun_mk (st := (topS 12)) l2' c2' k2'
  have g3 : GOk l.prog w (wo K [PT0]) mg base 3 (G3 PT0) nmG (fun _ => 0) := g2.add F2 s_is_words m_is_words (good_is_words PT0) (F2.binds (ps := P_is_words) fun _ _ _ _ _ _ us hl => match us, hl with | [_], _ => rfl) (PySem.W.mg_of X G a2) rfl
  have F3 := fun_mk (st := (topS 13)) l3' c3' k3'
  have g4 : GOk l.prog w (wo K [PT0]) mg base 4 (G4 PT0) nmG (fun _ => 0) := g3.add F3 s_check_words m_check_words (good_check_words PT0) (F3.binds (ps := P_check_words) fun _ _ _ _ _ _ us hl => match us, hl with | [_], _ => rfl) (PySem.W.mg_of X G a3) rfl
  have F4 := fun_mk (st := (topS 14)) l4' c4' k4'
  have g5 : GOk l.prog w (wo K [PT0]) mg base 5 (G5 PT0) nmG (fun _ => 0) := g4.add F4 s_is_width m_is_width (good_is_width PT0) (F4.binds (ps := P_is_width) fun _ _ _ _ _ _ us hl => match us, hl with | [_, _], _ => rfl) (PySem.W.mg_of X G a4) rfl
  have F5 := fun_mk (st := (topS 15)) l5' c5' k5'
  have g6 : GOk l.prog w (wo K [PT0]) mg base 6 (G6 PT0) nmG (fun _ => 0) := g5.add F5 s_check_text m_check_text (good_check_text PT0) (F5.binds (ps := P_check_text) fun _ _ _ _ _ _ us hl => match us, hl with | [_, _], _ => rfl) (PySem.W.mg_of X G a5) rfl
  have F6 := fun_mk (st := (topS 16)) l6' c6' k6'
  have g7 : GOk l.prog w (wo K [PT0]) mg base 7 (G7 PT0) nmG (fun _ => 0) := g6.add F6 s_next_index m_next_index (good_next_index PT0) (F6.binds (ps := P_next_index) fun _ _ _ _ _ _ us hl => match us, hl with | [_, _, _], _ => rfl) (PySem.W.mg_of X G a6) rfl
  have F7 := fun_mk (st := (topS 18)) l7' c7' k7'
  have g8 : GOk l.prog w (wo K [PT0]) mg base 8 (G8 PT0) nmG (fun _ => 0) := g7.add F7 s_starts_of m_starts_of (good_starts_of PT0) (F7.binds (ps := P_starts_of) fun _ _ _ _ _ _ us hl => match us, hl with | [_, _, _], _ => rfl) (PySem.W.mg_of X G a7) rfl
  have F8 := fun_mk (st := (topS 20)) l8' c8' k8'
  have g9 : GOk l.prog w (wo K [PT0]) mg base 9 (G9 PT0) nmG (fun _ => 0) := g8.add F8 s_with_length m_with_length (good_with_length PT0) (F8.binds (ps := P_with_length) fun _ _ _ _ _ _ us hl => match us, hl with | [_, _, _], _ => rfl) (PySem.W.mg_of X G a8) rfl
  have F9 := fun_mk (st := (topS 21)) l9' c9' k9'
  have g10 : GOk l.prog w (wo K [PT0]) mg base 10 (G10 PT0) nmG (fun _ => 0) := g9.addH F9.kp (hf_ok g9 (by decide) F9 s_lengths_that m_lengths_that (F9.binds (ps := P_lengths_that) fun _ _ _ _ _ _ us hl => match us, hl with | [_, _, _, _], _ => rfl) (hfB_good _ _ _ _)) (PySem.W.mg_of X G a9) rfl
  have F10 := fun_mk (st := (topS 22)) l10' c10' k10'
  have g11 : GOk l.prog w (wo K [PT0]) mg base 11 (G11 PT0) nmG (fun _ => 0) := g10.addT F10 s_longest_length m_longest_length (good_longest_length PT0) (F10.binds (ps := P_longest_length) fun _ _ _ _ _ _ us hl => match us, hl with | [_, _, _], _ => rfl) (PySem.W.mg_of X G a10) rfl (by decide +kernel) ⟨cT0, TB (cT0, PT0) (by simp), rfl⟩
  have F11 := fun_mk (st := (topS 23)) l11' c11' k11'
  have g12 : GOk l.prog w (wo K [PT0]) mg base 12 (G12 PT0) nmG (fun _ => 0) := g11.add F11 s_free_places m_free_places (good_free_places PT0) (F11.binds (ps := P_free_places) fun _ _ _ _ _ _ us hl => match us, hl with | [_, _, _], _ => rfl) (PySem.W.mg_of X G a11) rfl
  have F12 := fun_mk (st := (topS 23)) l12' c12' k12'
  have g13 : GOk l.prog w (wo K [PT0]) mg base 13 (G13 PT0) nmG (fun _ => 0) := g12.add F12 s_free_places_c m_free_places_c (good_free_places_c PT0) (F12.binds (ps := P_free_places_c) fun _ _ _ _ _ _ us hl => match us, hl with | [_, _, _], _ => rfl) (PySem.W.mg_of X G a12) rfl
  have F13 := fun_mk (st := (topS 25)) l13' c13' k13'
  have g14 : GOk l.prog w (wo K [PT0]) mg base 14 (G14 PT0) nmG (fun _ => 0) := g13.add F13 s_law_well m_law_well (good_law_well PT0) (F13.binds (ps := P_law_well) fun _ _ _ _ _ _ us hl => match us, hl with | [_, _], _ => rfl) (PySem.W.mg_of X G a13) rfl
  have F14 := fun_mk (st := (topS 26)) l14' c14' k14'
  have g15 : GOk l.prog w (wo K [PT0]) mg base 15 (G15 PT0) nmG (fun _ => 0) := g14.add F14 s_law_take m_law_take (good_law_take PT0) (F14.binds (ps := P_law_take) fun _ _ _ _ _ _ us hl => match us, hl with | [_, _], _ => rfl) (PySem.W.mg_of X G a14) rfl
  have F15 := fun_mk (st := (topS 27)) l15' c15' k15'
  have g16 : GOk l.prog w (wo K [PT0]) mg base 16 (G16 PT0) nmG (fun _ => 0) := g15.add F15 s_law_bags m_law_bags (good_law_bags PT0) (F15.binds (ps := P_law_bags) fun _ _ _ _ _ _ us hl => match us, hl with | [_, _], _ => rfl) (PySem.W.mg_of X G a15) rfl
  have F16 := fun_mk (st := (topS 28)) l16' c16' k16'
  have g17r0 : GOk l.prog w (wo K [PT0]) mg base 17 (G16_0 PT0) nmG (fun _ => 0) := g16.add F16 s_law_same m_law_same (good_law_same_0 PT0) (F16.binds (ps := P_law_same) fun _ _ _ _ _ _ us hl => match us, hl with | [_, _], _ => rfl) (PySem.W.mg_of X G a16) rfl
  have g17r1 : GOk l.prog w (wo K [PT0]) mg base 18 (G16_1 PT0) nmG (fun _ => 0) := g17r0.add F16 s_law_same m_law_same (good_law_same_1 PT0) (F16.binds (ps := P_law_same) fun _ _ _ _ _ _ us hl => match us, hl with | [_, _], _ => rfl) (PySem.W.mg_of X G a16) rfl
  have g17r2 : GOk l.prog w (wo K [PT0]) mg base 19 (G16_2 PT0) nmG (fun _ => 0) := g17r1.add F16 s_law_same m_law_same (good_law_same_2 PT0) (F16.binds (ps := P_law_same) fun _ _ _ _ _ _ us hl => match us, hl with | [_, _], _ => rfl) (PySem.W.mg_of X G a16) rfl
  have g17 : GOk l.prog w (wo K [PT0]) mg base 20 (G17 PT0) nmG (fun _ => 0) := g17r2.add F16 s_law_same m_law_same (good_law_same PT0) (F16.binds (ps := P_law_same) fun _ _ _ _ _ _ us hl => match us, hl with | [_, _], _ => rfl) (PySem.W.mg_of X G a16) rfl
  have F17 := fun_mk (st := (topS 29)) l17' c17' k17'
  have g18 : GOk l.prog w (wo K [PT0]) mg base 21 (G18 PT0) nmG (fun _ => 0) := g17.add F17 s_law_words m_law_words (good_law_words PT0) (F17.binds (ps := P_law_words) fun _ _ _ _ _ _ us hl => match us, hl with | [_, _], _ => rfl) (PySem.W.mg_of X G a17) rfl
  have F18 := fun_mk (st := (topS 30)) l18' c18' k18'
  have g19 : GOk l.prog w (wo K [PT0]) mg base 22 (G19 PT0) nmG (fun _ => 0) := g18.add F18 s_law_width m_law_width (good_law_width PT0) (F18.binds (ps := P_law_width) fun _ _ _ _ _ _ us hl => match us, hl with | [_, _], _ => rfl) (PySem.W.mg_of X G a18) rfl
  have F19 := fun_mk (st := (topS 31)) l19' c19' k19'
  have g20 : GOk l.prog w (wo K [PT0]) mg base 23 (G20 PT0) nmG (fun _ => 0) := g19.add F19 s_law_fit m_law_fit (good_law_fit PT0) (F19.binds (ps := P_law_fit) fun _ _ _ _ _ _ us hl => match us, hl with | [_, _, _, _], _ => rfl) (PySem.W.mg_of X G a19) rfl
  have F20 := fun_mk (st := (topS 32)) l20' c20' k20'
  have g21 : GOk l.prog w (wo K [PT0]) mg base 24 (G21 PT0) nmG (fun _ => 0) := g20.add F20 s_law_end m_law_end (good_law_end PT0) (F20.binds (ps := P_law_end) fun _ _ _ _ _ _ us hl => match us, hl with | [_, _, _], _ => rfl) (PySem.W.mg_of X G a20) rfl
  have F21 := fun_mk (st := (topS 33)) l21' c21' k21'
  have g22 : GOk l.prog w (wo K [PT0]) mg base 25 (G22 PT0) nmG (fun _ => 0) := g21.add F21 s_law_greedy m_law_greedy (good_law_greedy PT0) (F21.binds (ps := P_law_greedy) fun _ _ _ _ _ _ us hl => match us, hl with | [_, _, _], _ => rfl) (PySem.W.mg_of X G a21) rfl
  exact def_ok g22 (fun_mk (st := (topS 34)) l22' c22' k22') s_law_k15 m_law_k15 (good_law_k15 PT0)
end Lin
open PySem PySem.W PyProof.Rows
set_option maxHeartbeats 0 in
theorem PySem.Challenge.cw_linesync_k15_whole_changes_without_anoth_holds : PySem.Challenge.rw_linesync_k15_whole_changes_without_anoth.Holds := by
  w_on; o_law; k_head; (case hw => w_witness2)
  k_fill
  refine LamX.walk_ofTsE (l := PySem.Challenge.rw_linesync_k15_whole_changes_without_anoth) (n := 63) (k := 26) (x := "_law_script") (CX := fun w => L2.CX PySem.Challenge.pw_linesync_k15_whole_changes_without_anoth w) rfl (by decide) rfl ⟨rfl, by decide, by decide⟩ ?F (fun w H s e s' h => ?CX)
  case F =>
    intro w mg fa h Y G hmg
    refine' Lin.all_mk (PySem.W.km_in_of Y) G hmg ?a0 ?l0 ?c0 ?k0 ?a1 ?l1 ?c1 ?k1 ?a2 ?l2 ?c2 ?k2 ?a3 ?l3 ?c3 ?k3 ?a4 ?l4 ?c4 ?k4 ?a5 ?l5 ?c5 ?k5 ?a6 ?l6 ?c6 ?k6 ?a7 ?l7 ?c7 ?k7 ?a8 ?l8 ?c8 ?k8 ?a9 ?l9 ?c9 ?k9 ?a10 ?l10 ?c10 ?k10 ?qT0 ?pT0 ?tT0 ?rT0 ?a11 ?l11 ?c11 ?k11 ?a12 ?l12 ?c12 ?k12 ?a13 ?l13 ?c13 ?k13 ?a14 ?l14 ?c14 ?k14 ?a15 ?l15 ?c15 ?k15 ?a16 ?l16 ?c16 ?k16 ?a17 ?l17 ?c17 ?k17 ?a18 ?l18 ?c18 ?k18 ?a19 ?l19 ?c19 ?k19 ?a20 ?l20 ?c20 ?k20 ?a21 ?l21 ?c21 ?k21 ?a22 ?l22 ?c22 ?k22 ?i0 ?i1 ?i2 ?z0 ?z1 ?z2 ?z3 ?z4 ?z5 ?z6 ?z7 ?z8 ?z9 ?z10 ?z11 ?z12 ?z13 ?z14 ?z15 ?z16 ?ndT
    (case a0 => k_is)
    (case l0 => k_is)
    (case c0 => k_is)
    (case k0 => k_is)
    (case a1 => k_is)
    (case l1 => k_is)
    (case c1 => k_is)
    (case k1 => k_is)
    (case a2 => k_is)
    (case l2 => k_is)
    (case c2 => k_is)
    (case k2 => k_is)
    (case a3 => k_is)
    (case l3 => k_is)
    (case c3 => k_is)
    (case k3 => k_is)
    (case a4 => k_is)
    (case l4 => k_is)
    (case c4 => k_is)
    (case k4 => k_is)
    (case a5 => k_is)
    (case l5 => k_is)
    (case c5 => k_is)
    (case k5 => k_is)
    (case a6 => k_is)
    (case l6 => k_is)
    (case c6 => k_is)
    (case k6 => k_is)
    (case a7 => k_is)
    (case l7 => k_is)
    (case c7 => k_is)
    (case k7 => k_is)
    (case a8 => k_is)
    (case l8 => k_is)
    (case c8 => k_is)
    (case k8 => k_is)
    (case a9 => k_is)
    (case l9 => k_is)
    (case c9 => k_is)
    (case k9 => k_is)
    (case a10 => k_is)
    (case l10 => k_is)
    (case c10 => k_is)
    (case k10 => k_is)
    (case qT0 => k_is)
    (case pT0 => exact rfl)
    (case tT0 => exact PySem.W.km_tabs_of Y _ (by decide))
    (case rT0 => exact rfl)
    (case a11 => k_is)
    (case l11 => k_is)
    (case c11 => k_is)
    (case k11 => k_is)
    (case a12 => k_is)
    (case l12 => k_is)
    (case c12 => k_is)
    (case k12 => k_is)
    (case a13 => k_is)
    (case l13 => k_is)
    (case c13 => k_is)
    (case k13 => k_is)
    (case a14 => k_is)
    (case l14 => k_is)
    (case c14 => k_is)
    (case k14 => k_is)
    (case a15 => k_is)
    (case l15 => k_is)
    (case c15 => k_is)
    (case k15 => k_is)
    (case a16 => k_is)
    (case l16 => k_is)
    (case c16 => k_is)
    (case k16 => k_is)
    (case a17 => k_is)
    (case l17 => k_is)
    (case c17 => k_is)
    (case k17 => k_is)
    (case a18 => k_is)
    (case l18 => k_is)
    (case c18 => k_is)
    (case k18 => k_is)
    (case a19 => k_is)
    (case l19 => k_is)
    (case c19 => k_is)
    (case k19 => k_is)
    (case a20 => k_is)
    (case l20 => k_is)
    (case c20 => k_is)
    (case k20 => k_is)
    (case a21 => k_is)
    (case l21 => k_is)
    (case c21 => k_is)
    (case k21 => k_is)
    (case a22 => k_is)
    (case l22 => k_is)
    (case c22 => k_is)
    (case k22 => k_is)
    (case i0 => k_is)
    (case i1 => k_is)
    (case i2 => k_is)
    (case z0 => k_is)
    (case z1 => k_is)
    (case z2 => k_is)
    (case z3 => k_is)
    (case z4 => k_is)
    (case z5 => k_is)
    (case z6 => k_is)
    (case z7 => k_is)
    (case z8 => k_is)
    (case z9 => k_is)
    (case z10 => k_is)
    (case z11 => k_is)
    (case z12 => k_is)
    (case z13 => k_is)
    (case z14 => k_is)
    (case z15 => k_is)
    (case z16 => k_is)
    (case ndT => decide)
  case CX =>
    obtain ⟨_, _, _, _, _, _, _, _, _, _, _, _, z⟩ := h
    exact z
