import PyProof.Rows.All
import Wide.All
import OpenK.AllK
import Wide.FinOn
import KE.KStateDown
import HandS.ForMost
import HandS.More
import HandS.Exc
import HandS.Defaults
import HandS.IsInst
import HandS.Conv
import HandS.Flow
import HandS.Style
import HandS.HeadHook1
import HandS.HeadHook2
import HandS.Deep
import HandS.Zip
import HandS.SetFor
import KE.KDictZip
import KE.KTurns
import HandS.TupSets
import HandS.TryOnly
import HandS.TryMany
import HandS.ExcOwn
import HandS.WordsExc
import HandS.ExcInit
import HandS.Strs
import HandS.Text
import HandS.SortOrd
import HandS.ExcIs
import HandS.ExcField
import HandS.Comp
import PyProof.CompFree
import HandS.Replace
import PyProof.StrOps2
import HandS.TupLen
import HandS.Words
import HandS.Head0
import HandS.Head1
import HandS.Head2
import HandS.HeadEnd
import PySem.Challenge.RW_sortweb_k11_a_bench_by_deeds
set_option Elab.async false
set_option linter.all false
set_option maxRecDepth 100000
set_option maxHeartbeats 4000000
/-! FA: data instead of addresses. D what a value is worth, T who owns its lists; readings over lists of data (own work over the hand layer). -/
namespace W
open PySem L2

/-! ### data -/
inductive D where
  | non | bl (b : Bool) | int (i : Int) | str (x : Str) | lst (ds : List D) | tup (ds : List D) | flst (ds : List D) | abs (P : V → Hp → Prop) | bn (n : Int) (laid past : List D) | dt (ks : List (List Int)) | exc (c : Str) (p : Option (Option Int)) | md (n : Int) (web : List D) | mdn (n : Int)
/-- an exception's object at a: its class, its dict -/
def ExV (cls : Value) (d : Option Addr) (a : Addr) : HO := .ext fun h => ∃ (oe : Obj) (vs : Array Value), h.get? a = some oe ∧ Zc cls d oe ∧ oe.data = .fields vs
/-- the place that an exception keeps -/
def PlaceAt (S : Hp) (d : Option Addr) : Option (Option Int) → Prop
  | none => d = none
  | some none => ∃ dd, d = some dd ∧ S dd = some (.xd [("place", .non)])
  | some (some i) => ∃ dd, d = some dd ∧ S dd = some (.xd [("place", .int i)])
/-- a dict whose keys are tuples of ints, all its values True -/
def dtV (ks : List (List Int)) : List (List Key × V) := ks.map fun k => (k.map Sum.inl, V.bl true)
/-- a bench's attributes -/
def bnF (n : Int) (l p : Addr) : List (Str × V) := putF "past" (.ref p) (putF "laid" (.ref l) (putF "lines" (.int n) []))
/-- a dict 'lines': n, 'web': a list -/
def mdV (n : Int) (l : Addr) : List (Key × V) := [(Sum.inr "lines", V.int n), (Sum.inr "web", V.ref l)]
mutual
inductive At (K : PySem.W.Frag) (S : Hp) : V → D → Prop
  | non : At K S .non .non
  | bl (b : Bool) : At K S (.bl b) (.bl b)
  | int (i : Int) : At K S (.int i) (.int i)
  | str (x : Str) : At K S (.str x) (.str x)
  | lst {a : Addr} {xs : List V} {ds : List D} : S a = some (.lst xs) → Ats K S xs ds → At K S (.ref a) (.lst ds)
  | flst {a : Addr} {xs : List V} {ds : List D} : SqL K S a xs → Ats K S xs ds → At K S (.ref a) (.flst ds)
  | tup {a : Addr} {xs : List V} {ds : List D} : SqT K S a xs → Ats K S xs ds → At K S (.ref a) (.tup ds)
  | abs {v : V} {P : V → Hp → Prop} : (∀ S', Same S S' → P v S') → At K S v (.abs P)
  | bn {a dx l p : Addr} {n : Int} {xs ys : List V} {laid past : List D} : S a = some (.ins (He.ga K "Bench") dx (bnF n l p)) → S l = some (.lst xs) → S p = some (.lst ys) → Ats K S xs laid → Ats K S ys past → At K S (.ref a) (.bn n laid past)
  | dt {a : Addr} {ks : List (List Int)} : S a = some (.dT (dtV ks)) → At K S (.ref a) (.dt ks)
  | exc {a : Addr} {d : Option Addr} {c : Str} {p : Option (Option Int)} : S a = some (ExV (.ref (He.ga K c)) d a) → PlaceAt S d p → At K S (.ref a) (.exc c p)
  | md {a l : Addr} {n : Int} {xs : List V} {web : List D} : S a = some (.dK (mdV n l)) → S l = some (.lst xs) → Ats K S xs web → At K S (.ref a) (.md n web)
  | mdn {a l : Addr} {n : Int} : S a = some (.dK (mdV n l)) → At K S (.ref a) (.mdn n)
inductive Ats (K : PySem.W.Frag) (S : Hp) : List V → List D → Prop
  | nil : Ats K S [] []
  | cons {v : V} {d : D} {vs : List V} {ds : List D} : At K S v d → Ats K S vs ds → Ats K S (v :: vs) (d :: ds)
end
theorem same_rd {H H' : Hp} {a : Addr} {u : HO} (e : Same H H') (h : Rd H a u) : Rd H' a u := by
  rcases h with h | ⟨o, h⟩
  · exact Or.inl (e a _ h)
  · exact Or.inr ⟨o, e a _ h⟩
theorem same_l {K : PySem.W.Frag} {H H' : Hp} {a : Addr} {xs : List V} (e : Same H H') (h : SqL K H a xs) : SqL K H' a xs := h.elim (fun h => .inl (same_rd e h)) .inr
theorem same_t {K : PySem.W.Frag} {H H' : Hp} {a : Addr} {xs : List V} (e : Same H H') (h : SqT K H a xs) : SqT K H' a xs := h.elim (fun h => .inl (same_rd e h)) .inr
theorem same_new {H : Hp} {p : Addr} {o : HO} (h : H p = none) : Same H (upd H p o) := fun a u e => by
  rw [upd_ne (ne_of_none e h)]
  exact e
theorem PlaceAt.mono {S S' : Hp} {d : Option Addr} (e : Same S S') : ∀ {p : Option (Option Int)}, PlaceAt S d p → PlaceAt S' d p
  | none, h => h
  | some none, ⟨dd, h1, h2⟩ => ⟨dd, h1, e _ _ h2⟩
  | some (some _), ⟨dd, h1, h2⟩ => ⟨dd, h1, e _ _ h2⟩
section
variable {K : PySem.W.Frag}
mutual
theorem At.mono {S S' : Hp} (e : Same S S') : ∀ {d : D} {v : V}, At K S v d → At K S' v d
  | _, _, .non => .non
  | _, _, .bl b => .bl b
  | _, _, .int i => .int i
  | _, _, .str x => .str x
  | _, _, .lst h a => .lst (e _ _ h) (Ats.mono e a)
  | _, _, .flst h a => .flst (same_l e h) (Ats.mono e a)
  | _, _, .tup h a => .tup (same_t e h) (Ats.mono e a)
  | _, _, .abs h => .abs fun S2 e2 => h S2 (e.trans e2)
  | _, _, .bn h1 h2 h3 a b => .bn (e _ _ h1) (e _ _ h2) (e _ _ h3) (Ats.mono e a) (Ats.mono e b)
  | _, _, .dt h => .dt (e _ _ h)
  | _, _, .exc h q => .exc (e _ _ h) (q.mono e)
  | _, _, .md h1 h2 a => .md (e _ _ h1) (e _ _ h2) (Ats.mono e a)
  | _, _, .mdn h => .mdn (e _ _ h)
theorem Ats.mono {S S' : Hp} (e : Same S S') : ∀ {ds : List D} {vs : List V}, Ats K S vs ds → Ats K S' vs ds
  | _, _, .nil => .nil
  | _, _, .cons h a => .cons (At.mono e h) (Ats.mono e a)
end
theorem Ats.length {S : Hp} : ∀ {ds : List D} {vs : List V}, Ats K S vs ds → vs.length = ds.length
  | _, _, .nil => rfl
  | _, _, .cons _ a => by rw [List.length_cons, List.length_cons, Ats.length a]
theorem Ats.get {S : Hp} : ∀ {ds : List D} {vs : List V} {i : Nat} {d : D}, Ats K S vs ds → ds[i]? = some d → ∃ v, vs[i]? = some v ∧ At K S v d
  | _, _, _, _, .nil, e => by simp at e
  | _, _, 0, _, .cons h _, e => by simp at e; subst e; exact ⟨_, rfl, h⟩
  | _, _, i + 1, _, .cons _ a, e => by
    obtain ⟨v, h1, h2⟩ := Ats.get (i := i) a (by simpa using e)
    exact ⟨v, by simpa using h1, h2⟩
theorem Ats.getV {S : Hp} : ∀ {ds : List D} {vs : List V} {i : Nat} {v : V}, Ats K S vs ds → vs[i]? = some v → ∃ d, ds[i]? = some d ∧ At K S v d
  | _, _, _, _, .nil, e => by simp at e
  | _, _, 0, _, .cons h _, e => by simp at e; subst e; exact ⟨_, rfl, h⟩
  | _, _, i + 1, _, .cons _ a, e => by
    obtain ⟨v, h1, h2⟩ := Ats.getV (i := i) a (by simpa using e)
    exact ⟨v, by simpa using h1, h2⟩
theorem Ats.append {S : Hp} : ∀ {ds es : List D} {vs ws : List V}, Ats K S vs ds → Ats K S ws es → Ats K S (vs ++ ws) (ds ++ es)
  | _, _, _, _, .nil, b => b
  | _, _, _, _, .cons h a, b => .cons h (Ats.append a b)
theorem Ats.take {S : Hp} : ∀ {ds : List D} {vs : List V} (n : Nat), Ats K S vs ds → Ats K S (vs.take n) (ds.take n)
  | _, _, 0, _ => .nil
  | _, _, _ + 1, .nil => .nil
  | _, _, n + 1, .cons h a => .cons h (Ats.take n a)
theorem Ats.drop {S : Hp} : ∀ {ds : List D} {vs : List V} (n : Nat), Ats K S vs ds → Ats K S (vs.drop n) (ds.drop n)
  | _, _, 0, a => a
  | _, _, _ + 1, .nil => .nil
  | _, _, n + 1, .cons _ a => Ats.drop n a
theorem Ats.set {S : Hp} {v : V} {d : D} (h : At K S v d) : ∀ {ds : List D} {vs : List V} (n : Nat), Ats K S vs ds → Ats K S (vs.set n v) (ds.set n d)
  | _, _, _, .nil => .nil
  | _, _, 0, .cons _ a => .cons h a
  | _, _, n + 1, .cons g a => .cons g (Ats.set h n a)
theorem Ats.reverse {S : Hp} : ∀ {ds : List D} {vs : List V}, Ats K S vs ds → Ats K S vs.reverse ds.reverse
  | _, _, .nil => .nil
  | _, _, .cons h a => by
    rw [List.reverse_cons, List.reverse_cons]
    exact Ats.append (Ats.reverse a) (.cons h .nil)
theorem Ats.erase {S : Hp} : ∀ {ds : List D} {vs : List V} (n : Nat), Ats K S vs ds → Ats K S (vs.eraseIdx n) (ds.eraseIdx n)
  | _, _, _, .nil => .nil
  | _, _, 0, .cons _ a => a
  | _, _, n + 1, .cons h a => .cons h (Ats.erase n a)
theorem Ats.dropLast {S : Hp} {ds : List D} {vs : List V} (a : Ats K S vs ds) : Ats K S vs.dropLast ds.dropLast := by
  rw [List.dropLast_eq_take, List.dropLast_eq_take, a.length]
  exact a.take _
theorem Ats.ints {S : Hp} : ∀ {ns : List Int} {vs : List V}, Ats K S vs (ns.map D.int) → vs = ns.map V.int
  | [], _, h => by cases h; rfl
  | n :: ns, _, h => by
    cases h with
    | cons h a =>
      cases h
      rw [Ats.ints a]
      rfl
theorem Ats.of_ints {S : Hp} : ∀ (ns : List Int), Ats K S (ns.map V.int) (ns.map D.int)
  | [] => .nil
  | n :: ns => .cons (.int n) (Ats.of_ints ns)
theorem Ats.bls {S : Hp} : ∀ {bs : List Bool} {vs : List V}, Ats K S vs (bs.map D.bl) → vs = bs.map V.bl
  | [], _, h => by cases h; rfl
  | n :: ns, _, h => by
    cases h with
    | cons h a =>
      cases h
      rw [Ats.bls a]
      rfl
theorem Ats.strs_ {S : Hp} : ∀ {ns : List Str} {vs : List V}, Ats K S vs (ns.map D.str) → vs = ns.map V.str
  | [], _, h => by cases h; rfl
  | n :: ns, _, h => by
    cases h with
    | cons h a =>
      cases h
      rw [Ats.strs_ a]
      rfl
theorem Ats.of_strs {S : Hp} : ∀ (ns : List Str), Ats K S (ns.map V.str) (ns.map D.str)
  | [] => .nil
  | n :: ns => .cons (.str n) (Ats.of_strs ns)
theorem Ats.rep {S : Hp} {v : V} {d : D} (h : At K S v d) : ∀ n, Ats K S (List.replicate n v) (List.replicate n d)
  | 0 => .nil
  | n + 1 => .cons h (Ats.rep h n)
end

/-! ### who owns: sh d shared for good; ow ds a list of shared things that is ours alone; ows, tp: a list of ours, a tuple, of such -/
inductive T where
  | sh (d : D) | ow (ds : List D) | tp (ts : List T) | ows (ts : List T) | bn (a : Addr) (n : Int) (laid past : List D) | dt (ks : List (List Int)) | md (a : Addr) (n : Int) (web : List D) | ol (a : Addr) (ds : List D) | ml (ts : List T)
mutual
def T.d : T → D
  | .sh d => d
  | .ow ds => .lst ds
  | .tp ts => .tup (T.ds ts)
  | .ows ts => .lst (T.ds ts)
  | .bn _ n laid past => .bn n laid past
  | .dt ks => .dt ks
  | .md _ n web => .md n web
  | .ol _ ds => .lst ds
  | .ml ts => .lst (T.ds ts)
def T.ds : List T → List D
  | [] => []
  | t :: ts => t.d :: T.ds ts
end
theorem T.ds_map : ∀ ts : List T, T.ds ts = ts.map T.d
  | [] => rfl
  | t :: ts => by rw [T.ds, T.ds_map ts]; rfl
/-- what can be owned -/
inductive OM where
  | lst (xs : List V) | ins (C dx : Addr) (fs : List (Str × V)) | own (x : Addr) | dT (kvs : List (List Key × V))
def OM.ho : OM → HO
  | .lst xs => .lst xs
  | .ins C dx fs => .ins C dx fs
  | .own x => .own x
  | .dT kvs => .dT kvs
mutual
inductive Res (K : PySem.W.Frag) (S H : Hp) : V → T → List Addr → Prop
  | sh {v : V} {d : D} : At K S v d → Res K S H v (.sh d) []
  | ow {p : Addr} {xs : List V} {ds : List D} : H p = some (.lst xs) → Ats K S xs ds → Res K S H (.ref p) (.ow ds) [p]
  | tp {p : Addr} {xs : List V} {ts : List T} {L : List Addr} : SqT K S p xs → Ress K S H xs ts L → Res K S H (.ref p) (.tp ts) L
  | ows {p : Addr} {xs : List V} {ts : List T} {L : List Addr} : H p = some (.lst xs) → Ress K S H xs ts L → Res K S H (.ref p) (.ows ts) (p :: L)
  | bn {a dx l p : Addr} {n : Int} {xs ys : List V} {laid past : List D} : H a = some (.ins (He.ga K "Bench") dx (bnF n l p)) → H dx = some (.own a) → H l = some (.lst xs) → H p = some (.lst ys) → Ats K S xs laid → Ats K S ys past → Res K S H (.ref a) (.bn a n laid past) [a, dx, l, p]
  | dt {p : Addr} {ks : List (List Int)} : H p = some (.dT (dtV ks)) → Res K S H (.ref p) (.dt ks) [p]
  | md {a l : Addr} {n : Int} {xs : List V} {web : List D} : S a = some (.dK (mdV n l)) → H l = some (.lst xs) → Ats K S xs web → Res K S H (.ref a) (.md a n web) [l]
  | ol {a : Addr} {xs : List V} {ds : List D} : H a = some (.lst xs) → Ats K S xs ds → Res K S H (.ref a) (.ol a ds) [a]
  | ml {p : Addr} {xs : List V} {ts : List T} {L : List Addr} : S p = some (.lst xs) → Ress K S H xs ts L → Res K S H (.ref p) (.ml ts) L
inductive Ress (K : PySem.W.Frag) (S H : Hp) : List V → List T → List Addr → Prop
  | nil : Ress K S H [] [] []
  | cons {v : V} {t : T} {vs : List V} {ts : List T} {L M : List Addr} : Res K S H v t L → Ress K S H vs ts M → Ress K S H (v :: vs) (t :: ts) (L ++ M)
end
section
variable {K : PySem.W.Frag}
mutual
theorem Res.mono {S S' H H' : Hp} (e : Same S S') : ∀ {t : T} {v : V} {L : List Addr}, Res K S H v t L → (∀ a ∈ L, H' a = H a) → Res K S' H' v t L
  | _, _, _, .sh a, _ => .sh (a.mono e)
  | _, _, _, .ow h a, k => .ow ((k _ (by simp)).trans h) (a.mono e)
  | _, _, _, .tp h a, k => .tp (same_t e h) (Ress.mono e a k)
  | _, _, _, .ows h a, k => .ows ((k _ (by simp)).trans h) (Ress.mono e a fun b hb => k b (List.mem_cons_of_mem _ hb))
  | _, _, _, .bn h1 h2 h3 h4 a b, k => .bn ((k _ (by simp)).trans h1) ((k _ (by simp)).trans h2) ((k _ (by simp)).trans h3) ((k _ (by simp)).trans h4) (a.mono e) (b.mono e)
  | _, _, _, .dt h, k => .dt ((k _ (by simp)).trans h)
  | _, _, _, .md h1 h2 a, k => .md (e _ _ h1) ((k _ (by simp)).trans h2) (a.mono e)
  | _, _, _, .ol h a, k => .ol ((k _ (by simp)).trans h) (a.mono e)
  | _, _, _, .ml h a, k => .ml (e _ _ h) (Ress.mono e a k)
theorem Ress.mono {S S' H H' : Hp} (e : Same S S') : ∀ {ts : List T} {vs : List V} {L : List Addr}, Ress K S H vs ts L → (∀ a ∈ L, H' a = H a) → Ress K S' H' vs ts L
  | _, _, _, .nil, _ => .nil
  | _, _, _, .cons h a, k => .cons (Res.mono e h fun b hb => k b (List.mem_append_left _ hb)) (Ress.mono e a fun b hb => k b (List.mem_append_right _ hb))
end
mutual
theorem Res.lst {S H : Hp} : ∀ {t : T} {v : V} {L : List Addr}, Res K S H v t L → ∀ a ∈ L, ∃ xs : OM, H a = some xs.ho
  | _, _, _, .sh _, _, h => by simp at h
  | _, _, _, .ow h _, a, m => by simp at m; subst m; exact ⟨.lst _, h⟩
  | _, _, _, .tp _ r, a, m => Ress.lst r a m
  | _, _, _, .ows h r, a, m => by
    rcases List.mem_cons.mp m with e | m
    · subst e; exact ⟨.lst _, h⟩
    · exact Ress.lst r a m
  | _, _, _, .bn h1 h2 h3 h4 _ _, a, m => by
    simp only [List.mem_cons, List.not_mem_nil, or_false] at m
    rcases m with e | e | e | e <;> subst e
    · exact ⟨.ins _ _ _, h1⟩
    · exact ⟨.own _, h2⟩
    · exact ⟨.lst _, h3⟩
    · exact ⟨.lst _, h4⟩
  | _, _, _, .dt h, a, m => by simp at m; subst m; exact ⟨.dT _, h⟩
  | _, _, _, .md _ h _, a, m => by simp at m; subst m; exact ⟨.lst _, h⟩
  | _, _, _, .ol h _, a, m => by simp at m; subst m; exact ⟨.lst _, h⟩
  | _, _, _, .ml _ r, a, m => Ress.lst r a m
theorem Ress.lst {S H : Hp} : ∀ {ts : List T} {vs : List V} {L : List Addr}, Ress K S H vs ts L → ∀ a ∈ L, ∃ xs : OM, H a = some xs.ho
  | _, _, _, .nil, _, h => by simp at h
  | _, _, _, .cons h r, a, m => (List.mem_append.mp m).elim (Res.lst h a) (Ress.lst r a)
end
/-- what is at L known too -/
def shr (S H : Hp) (L : List Addr) : Hp := fun a => if a ∈ L then H a else S a
theorem shr_in {S H : Hp} {L : List Addr} {a : Addr} (h : a ∈ L) : shr S H L a = H a := if_pos h
theorem shr_out {S H : Hp} {L : List Addr} {a : Addr} (h : a ∉ L) : shr S H L a = S a := if_neg h
theorem shr_le {S H : Hp} {L : List Addr} (e : Same S H) : Same S (shr S H L) := fun a o h => by
  by_cases m : a ∈ L
  · rw [shr_in m]; exact e a o h
  · rw [shr_out m]; exact h
theorem shr_ge {S H : Hp} {L : List Addr} (e : Same S H) : Same (shr S H L) H := fun a o h => by
  by_cases m : a ∈ L
  · rw [shr_in m] at h; exact h
  · rw [shr_out m] at h; exact e a o h
mutual
theorem Res.share {S H S' : Hp} (e : Same S S') : ∀ {t : T} {v : V} {L : List Addr}, Res K S H v t L → (∀ a ∈ L, S' a = H a) → At K S' v t.d
  | _, _, _, .sh a, _ => a.mono e
  | _, _, _, .ow h a, k => .lst ((k _ (by simp)).trans h) (a.mono e)
  | _, _, _, .tp h a, k => .tup (same_t e h) (Ress.share e a k)
  | _, _, _, .ows h a, k => .lst ((k _ (by simp)).trans h) (Ress.share e a fun b hb => k b (List.mem_cons_of_mem _ hb))
  | _, _, _, .bn h1 h2 h3 h4 a b, k => .bn ((k _ (by simp)).trans h1) ((k _ (by simp)).trans h3) ((k _ (by simp)).trans h4) (a.mono e) (b.mono e)
  | _, _, _, .dt h, k => .dt ((k _ (by simp)).trans h)
  | _, _, _, .md h1 h2 a, k => .md (e _ _ h1) ((k _ (by simp)).trans h2) (a.mono e)
  | _, _, _, .ol h a, k => .lst ((k _ (by simp)).trans h) (a.mono e)
  | _, _, _, .ml h a, k => .lst (e _ _ h) (Ress.share e a k)
theorem Ress.share {S H S' : Hp} (e : Same S S') : ∀ {ts : List T} {vs : List V} {L : List Addr}, Ress K S H vs ts L → (∀ a ∈ L, S' a = H a) → Ats K S' vs (T.ds ts)
  | _, _, _, .nil, _ => .nil
  | _, _, _, .cons h a, k => .cons (Res.share e h fun b hb => k b (List.mem_append_left _ hb)) (Ress.share e a fun b hb => k b (List.mem_append_right _ hb))
end
theorem Ress.length {S H : Hp} : ∀ {ts : List T} {vs : List V} {L : List Addr}, Ress K S H vs ts L → vs.length = ts.length
  | _, _, _, .nil => rfl
  | _, _, _, .cons _ a => by rw [List.length_cons, List.length_cons, Ress.length a]
theorem Ress.append {S H : Hp} : ∀ {ts us : List T} {vs ws : List V} {L M : List Addr}, Ress K S H vs ts L → Ress K S H ws us M → Ress K S H (vs ++ ws) (ts ++ us) (L ++ M)
  | _, _, _, _, _, _, .nil, b => b
  | _, _, _, _, _, _, .cons h a, b => by
    rw [List.append_assoc]
    exact .cons h (Ress.append a b)
end

/-! ### steps of the two heaps: S what is shared, H all -/
structure Ext (S H S' H' : Hp) : Prop where
  s : Same S S'
  h : Same H H'
  le : Same S' H'
  dom : ∀ a (o : OM), H a = some o.ho → S' a = S a
theorem Ext.refl {S H : Hp} (e : Same S H) : Ext S H S H := ⟨.refl _, .refl _, e, fun _ _ _ => rfl⟩
theorem Ext.trans {S H S1 H1 S2 H2 : Hp} (a : Ext S H S1 H1) (b : Ext S1 H1 S2 H2) : Ext S H S2 H2 :=
  ⟨a.s.trans b.s, a.h.trans b.h, b.le, fun x o h => (b.dom x o (a.h x _ h)).trans (a.dom x o h)⟩
def Frs (H S : Hp) (L : List Addr) : Prop := L.Nodup ∧ ∀ a ∈ L, H a = none ∧ S a = none
def Out (K : PySem.W.Frag) (S H : Hp) (v : V) (t : T) (S' H' : Hp) : Prop := Ext S H S' H' ∧ ∃ L, Res K S' H' v t L ∧ Frs H S' L
def Outs (K : PySem.W.Frag) (S H : Hp) (vs : List V) (ts : List T) (S' H' : Hp) : Prop := Ext S H S' H' ∧ ∃ L, Ress K S' H' vs ts L ∧ Frs H S' L
section
variable {K : PySem.W.Frag} {S H S' H' S1 H1 : Hp}
theorem Same.none {A B : Hp} (e : Same A B) {a : Addr} (h : B a = none) : A a = none := e.free h
theorem Ext.shr {L : List Addr} (e : Ext S H S' H') (f : Frs H S' L) : Ext S H (shr S' H' L) H' :=
  ⟨e.s.trans (shr_le e.le), e.h, shr_ge e.le, fun a o h => by
    have n : a ∉ L := fun m => by rw [(f.2 a m).1] at h; cases h
    rw [shr_out n]
    exact e.dom a o h⟩
theorem Out.share {v : V} {t : T} (o : Out K S H v t S' H') : ∃ S2, Ext S H S2 H' ∧ Same S' S2 ∧ At K S2 v t.d := by
  obtain ⟨e, L, r, f⟩ := o
  exact ⟨shr S' H' L, e.shr f, shr_le e.le, r.share (shr_le e.le) fun a m => shr_in m⟩
theorem Outs.share {vs : List V} {ts : List T} (o : Outs K S H vs ts S' H') : ∃ S2, Ext S H S2 H' ∧ Same S' S2 ∧ Ats K S2 vs (T.ds ts) := by
  obtain ⟨e, L, r, f⟩ := o
  exact ⟨W.shr S' H' L, e.shr f, shr_le e.le, r.share (shr_le e.le) fun a m => shr_in m⟩
theorem Out.from {v : V} {t : T} (e : Ext S H S1 H1) (o : Out K S1 H1 v t S' H') : Out K S H v t S' H' := by
  obtain ⟨e2, L, r, f⟩ := o
  exact ⟨e.trans e2, L, r, f.1, fun a m => ⟨Same.none e.h (f.2 a m).1, (f.2 a m).2⟩⟩
theorem Outs.from {vs : List V} {ts : List T} (e : Ext S H S1 H1) (o : Outs K S1 H1 vs ts S' H') : Outs K S H vs ts S' H' := by
  obtain ⟨e2, L, r, f⟩ := o
  exact ⟨e.trans e2, L, r, f.1, fun a m => ⟨Same.none e.h (f.2 a m).1, (f.2 a m).2⟩⟩
theorem Out.sh {v : V} {d : D} (e : Same S H) (a : At K S v d) : Out K S H v (.sh d) S H := ⟨.refl e, [], .sh a, List.nodup_nil, fun _ m => by simp at m⟩
theorem frs_one {p : Addr} (h : H p = none) (h' : S p = none) : Frs H S [p] := ⟨by simp, fun a m => by simp at m; subst m; exact ⟨h, h'⟩⟩
theorem Frs.nil : Frs H S [] := ⟨List.nodup_nil, fun _ m => by simp at m⟩
/-- a new list -/
theorem Out.ow {p : Addr} {xs : List V} {ds : List D} (e : Same S H) (hp : H p = none) (a : Ats K S xs ds) : Out K S H (.ref p) (.ow ds) S (upd H p (.lst xs)) :=
  ⟨⟨.refl _, same_new hp, e.trans (same_new hp), fun _ _ _ => rfl⟩, [p], .ow upd_same a, frs_one hp (Same.none e hp)⟩
/-- a new tuple of shared things -/
theorem Out.tup {p : Addr} {xs : List V} {ds : List D} (e : Same S H) (hp : H p = none) (a : Ats K S xs ds) : Out K S H (.ref p) (.sh (.tup ds)) (upd S p (.tup xs)) (upd H p (.tup xs)) := by
  have hs : S p = none := Same.none e hp
  refine ⟨⟨same_new hs, same_new hp, fun b o h => ?_, fun b o h => upd_ne (ne_of_none h hp)⟩, [], .sh (.tup (.inl (.inl upd_same)) (a.mono (same_new hs))), Frs.nil⟩
  by_cases hb : b = p
  · subst hb; rw [upd_same] at h; rw [upd_same]; exact h
  · rw [upd_ne hb] at h; rw [upd_ne hb]; exact e b o h
/-- a new tuple, a new list, of things of which some are ours -/
theorem Out.tp {p : Addr} {xs : List V} {ts : List T} (o : Outs K S H xs ts S' H') (hp : H' p = none) : Out K S H (.ref p) (.tp ts) (upd S' p (.tup xs)) (upd H' p (.tup xs)) := by
  obtain ⟨e, L, r, f⟩ := o
  have hs : S' p = none := Same.none e.le hp
  have hL : p ∉ L := fun m => by obtain ⟨z, h⟩ := r.lst p m; rw [hp] at h; cases h
  refine ⟨⟨e.s.trans (same_new hs), e.h.trans (same_new hp), fun b o h => ?_, fun b o h => (upd_ne (ne_of_none (e.h b _ h) hp)).trans (e.dom b o h)⟩, L, .tp (.inl (.inl upd_same)) (r.mono (same_new hs) fun a m => upd_ne fun z => hL (z ▸ m)), f.1, fun a m => ⟨(f.2 a m).1, ?_⟩⟩
  · by_cases hb : b = p
    · subst hb; rw [upd_same] at h; rw [upd_same]; exact h
    · rw [upd_ne hb] at h; rw [upd_ne hb]; exact e.le b o h
  · have ne : a ≠ p := fun z => hL (by rw [← z]; exact m)
    rw [upd_ne ne]; exact (f.2 a m).2
theorem Out.ows {p : Addr} {xs : List V} {ts : List T} (o : Outs K S H xs ts S' H') (hp : H' p = none) : Out K S H (.ref p) (.ows ts) S' (upd H' p (.lst xs)) := by
  obtain ⟨e, L, r, f⟩ := o
  have hL : p ∉ L := fun m => by obtain ⟨z, h⟩ := r.lst p m; rw [hp] at h; cases h
  refine ⟨⟨e.s, e.h.trans (same_new hp), e.le.trans (same_new hp), e.dom⟩, p :: L, .ows upd_same (r.mono (.refl _) fun a m => upd_ne fun z => hL (z ▸ m)), List.nodup_cons.mpr ⟨hL, f.1⟩, fun a m => ?_⟩
  rcases List.mem_cons.mp m with z | m
  · subst z; exact ⟨Same.none e.h hp, Same.none e.le hp⟩
  · exact f.2 a m
end
end W

/-! FB: expressions over data. -/
namespace W
open PySem L2

abbrev Env := List (Option T)
def nth : List (Option T) → Nat → Option T
  | [], _ => none
  | x :: _, 0 => x
  | _ :: l, n + 1 => nth l n
theorem nth_get : ∀ {env : List (Option T)} {i : Nat} {t : T}, nth env i = some t ↔ env[i]? = some (some t)
  | [], i, t => by simp [nth]
  | x :: l, 0, t => by simp [nth]
  | x :: l, n + 1, t => by simp [nth, nth_get]
abbrev BT := List (Option T) → (T → Prop) → Prop
abbrev BTT := List (Option T) → (Bool → Prop) → Prop
abbrev BA := List (Option T) → (List T → Prop) → Prop
def EnvS (K : PySem.W.Frag) (S : Hp) (σ : L2.St) (env : List (Option T)) : Prop := σ.length = env.length ∧ ∀ i t, nth env i = some t → ∃ v, σ[i]? = some (some v) ∧ At K S v t.d
theorem EnvS.mono {K : PySem.W.Frag} {S S' : Hp} {σ : L2.St} {env : List (Option T)} (h : EnvS K S σ env) (e : Same S S') : EnvS K S' σ env := ⟨h.1, fun i t ht => by
  obtain ⟨v, h1, h2⟩ := h.2 i t ht
  exact ⟨v, h1, h2.mono e⟩⟩
def eOf (K : PySem.W.Frag) (b : BT) : TE := fun σ H Q => ∃ (S : Hp) (env : List (Option T)) (Qd : T → Prop), Same S H ∧ EnvS K S σ env ∧ b env Qd ∧ ∀ v S' H' t, Out K S H v t S' H' → Qd t → Q v H'
def tOf (K : PySem.W.Frag) (b : BTT) : TT := fun σ H Q => ∃ (S : Hp) (env : List (Option T)) (Qd : Bool → Prop), Same S H ∧ EnvS K S σ env ∧ b env Qd ∧ ∀ c S' H', Ext S H S' H' → Qd c → Q c H'
def aOf (K : PySem.W.Frag) (b : BA) : TA := fun σ H Q => ∃ (S : Hp) (env : List (Option T)) (Qd : List T → Prop), Same S H ∧ EnvS K S σ env ∧ b env Qd ∧ ∀ vs S' H' ts, Outs K S H vs ts S' H' → Qd ts → Q vs H'
abbrev PB (X : Cx) (e : Expr) (b : BT) : Prop := PE X e (eOf X.K b)
abbrev PQ (X : Cx) (e : Expr) (b : BTT) : Prop := PT X e (tOf X.K b)
abbrev PAb (X : Cx) (es : List Expr) (b : BA) : Prop := PA X es (aOf X.K b)
theorem pe_weak {X : Cx} {e : Expr} {t t' : TE} (h : PE X e t) (k : ∀ σ H Q, t' σ H Q → t σ H Q) : PE X e t' := ⟨fun p s σ H Q I q => h.run p s σ H Q I (k _ _ _ q)⟩
theorem pt_weak {X : Cx} {e : Expr} {t t' : TT} (h : PT X e t) (k : ∀ σ H Q, t' σ H Q → t σ H Q) : PT X e t' := ⟨fun p s σ H Q I q => h.run p s σ H Q I (k _ _ _ q)⟩
theorem pw_weak {X : Cx} {e : Expr} {t t' : TT} (h : PW X e t) (k : ∀ σ H Q, t' σ H Q → t σ H Q) : PW X e t' := ⟨fun w p s σ H Q I q => h.run w p s σ H Q I (k _ _ _ q)⟩
theorem pa_weak {X : Cx} {e : List Expr} {t t' : TA} (h : PA X e t) (k : ∀ σ H Q, t' σ H Q → t σ H Q) : PA X e t' := ⟨fun o p s σ H Q I q => h.run o p s σ H Q I (k _ _ _ q)⟩
theorem ps_weak {X : Cx} {e : Stmt} {t t' : TS} (h : PS X e t) (k : ∀ D σ H, t' D σ H → t D σ H) : PS X e t' := ⟨fun p s σ H D I q => h.run p s σ H D I (k _ _ _ q)⟩
theorem pss_weak {X : Cx} {e : List Stmt} {t t' : TS} (h : PSs X e t) (k : ∀ D σ H, t' D σ H → t D σ H) : PSs X e t' := ⟨fun p s σ H D I q => h.run p s σ H D I (k _ _ _ q)⟩

/-! ### names, constants -/
def bV (i : Nat) : BT := fun env Q => match nth env i with
  | some t => Q (.sh t.d)
  | none => False
def bC (d : D) : BT := fun _ Q => Q (.sh d)
section
variable {X : Cx} {a b c e : Expr} {es : List Expr} {ba bb bc be : BT} {pos : Pos}
theorem b_v (i : Nat) {x : Str} (hN : X.N[i]? = some x := by rfl) (hv : Vis X.env.scope x := by first | exact Or.inl rfl | exact Or.inr (Or.inl rfl) | exact Or.inr (Or.inr rfl)) (hd : (x == ("__debug__" : Str)) = false := by decide)
    (hcd : (x == ("__classdict__" : Str)) = false := by decide) : PB X (.Name x pos) (bV i) := pe_weak (pe_var hN hv hd hcd) fun σ H Q ⟨S, env, Qd, hS, hE, hb, hQ⟩ => by
  unfold bV at hb
  cases h : nth env i with
  | none => rw [h] at hb; exact hb.elim
  | some t =>
    rw [h] at hb
    obtain ⟨v, h1, h2⟩ := hE.2 i t h
    exact ⟨v, h1, hQ v S H _ (.sh hS h2) hb⟩
theorem b_c {v : V} {d : D} (h : PE X e (tC v)) (a : ∀ S, At X.K S v d) : PB X e (bC d) := pe_weak h fun σ H Q ⟨S, env, Qd, hS, hE, hb, hQ⟩ => hQ v S H _ (.sh hS (a S)) hb
theorem b_int {i j} : PB X (.Constant (.int i) j pos) (bC (.int i)) := b_c pe_int fun _ => .int i
theorem b_bl {i j} : PB X (.Constant (.bool i) j pos) (bC (.bl i)) := b_c pe_bl fun _ => .bl i
theorem b_non {j} : PB X (.Constant .none j pos) (bC .non) := b_c pe_non fun _ => .non
theorem b_str {x j} : PB X (.Constant (.str x) j pos) (bC (.str x)) := b_c pe_str fun _ => .str x
/-- a module's whole number -/
theorem b_gi {x : Str} {i : Int} (hm : ∃ t, X.mg x = some (.int i t)) (hg : Gl X x) (hd : (x == ("__debug__" : Str)) = false := by decide) : PB X (.Name x pos) (bC (.int i)) := by
  obtain ⟨t, hm⟩ := hm
  exact b_c (v := .int i) (pe_glob hg hm ⟨t, rfl⟩ hd) fun _ => .int i
theorem b_gs {x z : Str} (hm : ∃ t, X.mg x = some (.str z t)) (hg : Gl X x) (hd : (x == ("__debug__" : Str)) = false := by decide) : PB X (.Name x pos) (bC (.str z)) := by
  obtain ⟨t, hm⟩ := hm
  exact b_c (v := .str z) (pe_glob hg hm ⟨t, rfl⟩ hd) fun _ => .str z

/-! ### two operands -/
abbrev F2 := D → D → (T → Prop) → Prop
def RefR2 (K : PySem.W.Frag) (r : R2) (f : F2) : Prop := ∀ S H v w d e (Q : VK) (Qd : T → Prop), Same S H → At K S v d → At K S w e → f d e Qd → (∀ u S' H' t, Out K S H u t S' H' → Qd t → Q u H') → r v w H Q
def OpD (X : Cx) (g : Value → Value → Sem Value) (f : F2) : Prop := ∃ r, OpR X g r ∧ RefR2 X.K r f
def bOp (f : F2) (ba bb : BT) : BT := fun env Q => ba env fun x => bb env fun y => f x.d y.d Q
theorem op2_ref {K : PySem.W.Frag} {r : R2} {f : F2} (hr : RefR2 K r f) {σ : L2.St} {H : Hp} {Q : VK} (h : eOf K (bOp f ba bb) σ H Q) : tOp r (eOf K ba) (eOf K bb) σ H Q := by
  obtain ⟨S, env, Qd, hS, hE, hb, hQ⟩ := h
  refine ⟨S, env, _, hS, hE, hb, fun x S1 H1 t1 O1 q1 => ?_⟩
  obtain ⟨S2, e1, _, a1⟩ := O1.share
  refine ⟨S2, env, _, e1.le, hE.mono e1.s, q1, fun y S3 H3 t3 O3 q3 => ?_⟩
  obtain ⟨S4, e3, _, a3⟩ := O3.share
  exact hr S4 H3 x y _ _ Q Qd e3.le (a1.mono e3.s) a3 q3 fun u S' H' t O q => hQ u S' H' t (O.from (e1.trans e3)) q
theorem b_op {op : Operator} {f : F2} (ho : OpD X (binaryOp op) f) (ha : PB X a ba) (hb : PB X b bb) : PB X (.BinOp a op b pos) (bOp f ba bb) := by
  obtain ⟨r, h1, h2⟩ := ho
  exact pe_weak (pe_op h1 ha hb) fun σ H Q h => op2_ref h2 h
theorem b_cmp {op : CmpOp} {f : F2} (ho : OpD X (compareOp op) f) (ha : PB X a ba) (hb : PB X b bb) (hm : behindInMarks op b = false) : PB X (.Compare a [op] [b] pos) (bOp f ba bb) := by
  obtain ⟨r, h1, h2⟩ := ho
  exact pe_weak (pe_cmpR h1 ha hb hm) fun σ H Q h => op2_ref h2 h
def asB (t : T) (Q : Bool → Prop) : Prop := match t with
  | .sh (.bl c) => Q c
  | _ => False
theorem asB_at {t : T} {Q : Bool → Prop} (h : asB t Q) : ∃ c, t = .sh (.bl c) ∧ Q c := by
  unfold asB at h
  split at h
  · exact ⟨_, rfl, h⟩
  · exact h.elim
def qVal (b : BT) : BTT := fun env Q => b env fun t => asB t Q
theorem val_ref {K : PySem.W.Frag} {σ : L2.St} {H : Hp} {Q : Bool → Hp → Prop} (h : tOf K (qVal be) σ H Q) : eOf K be σ H fun x H1 => ∃ c, x = .bl c ∧ Q c H1 := by
  obtain ⟨S, env, Qd, hS, hE, hb, hQ⟩ := h
  refine ⟨S, env, _, hS, hE, hb, fun v S' H' t O q => ?_⟩
  obtain ⟨c, rfl, q⟩ := asB_at q
  obtain ⟨S2, e2, _, a2⟩ := O.share
  cases a2
  exact ⟨c, rfl, hQ c S2 H' e2 q⟩
theorem q_val (h : PB X e be) (he : ∀ whole, isTrue e X.env whole = (do let v ← whole; standAt e.pos; holding [v] (truthy v)) := by intro _; rfl) : PQ X e (qVal be) := pt_weak (pt_val h he) fun σ H Q q => val_ref q
theorem q_cmp {op : CmpOp} {f : F2} (ho : OpD X (compareOp op) f) (ha : PB X a ba) (hb : PB X b bb) (hm : behindInMarks op b = false) : PQ X (.Compare a [op] [b] pos) (qVal (bOp f ba bb)) := by
  obtain ⟨r, h1, h2⟩ := ho
  refine pt_weak (pt_cmpR h1 ha hb hm) fun σ H Q h => ?_
  have h3 := val_ref h
  exact op2_ref h2 h3

/-! ### chains -/
def bCh (f g : F2) (ba bb bc : BT) : BT := fun env Q => ba env fun x => bb env fun y => f x.d y.d fun z => asB z fun k => ∃ k2, (k = true → bc env fun w => g y.d w.d fun z2 => asB z2 fun c => c = k2) ∧ Q (.sh (.bl (k && k2)))
theorem ch_ref {K : PySem.W.Frag} {r r' : R2} {f g : F2} (hr : RefR2 K r f) (hr' : RefR2 K r' g) {σ : L2.St} {H : Hp} {Q : VK} (h : eOf K (bCh f g ba bb bc) σ H Q) : tChain r r' (eOf K ba) (eOf K bb) (eOf K bc) σ H Q := by
  obtain ⟨S, env, Qd, hS, hE, hb, hQ⟩ := h
  refine ⟨S, env, _, hS, hE, hb, fun x S1 H1 t1 O1 q1 => ?_⟩
  obtain ⟨S2, e1, _, a1⟩ := O1.share
  refine ⟨S2, env, _, e1.le, hE.mono e1.s, q1, fun y S3 H3 t3 O3 q3 => ?_⟩
  obtain ⟨S4, e3, _, a3⟩ := O3.share
  refine hr S4 H3 x y _ _ _ _ e3.le (a1.mono e3.s) a3 q3 fun u S5 H5 t5 O5 q5 => ?_
  obtain ⟨k, rfl, k2, q6, q7⟩ := asB_at q5
  obtain ⟨S6, e5, _, a5⟩ := O5.share
  cases a5
  refine ⟨k, rfl, ?_⟩
  have e6 := (e1.trans e3).trans e5
  cases k with
  | true =>
    refine iteT ?_
    refine ⟨S6, env, _, e6.le, hE.mono e6.s, q6 rfl, fun w S7 H7 t7 O7 q8 => ?_⟩
    obtain ⟨S8, e7, _, a7⟩ := O7.share
    refine hr' S8 H7 y w _ _ _ _ e7.le (a3.mono (e5.s.trans e7.s)) a7 q8 fun u S9 H9 t9 O9 q9 => ?_
    obtain ⟨c, rfl, q10⟩ := asB_at q9
    subst q10
    exact hQ u S9 H9 _ (O9.from (e6.trans e7)) q7
  | false =>
    refine iteF ?_
    exact hQ _ S6 H5 _ ((Out.sh e6.le (.bl false)).from e6) q7
theorem b_chain {op op' : CmpOp} {f g : F2} (ho : OpD X (compareOp op) f) (ho' : OpD X (compareOp op') g) (ha : PB X a ba) (hb : PB X b bb) (hc : PB X c bc) (hm : lastMarks [op, op'] [b, c] = false := by with_unfolding_all rfl) :
    PB X (.Compare a [op, op'] [b, c] pos) (bCh f g ba bb bc) := by
  obtain ⟨r, h1, h2⟩ := ho
  obtain ⟨r', h3, h4⟩ := ho'
  exact pe_weak (pe_chain h1 h3 ha hb hc hm) fun σ H Q h => ch_ref h2 h4 h
theorem q_chain {op op' : CmpOp} {f g : F2} (ho : OpD X (compareOp op) f) (ho' : OpD X (compareOp op') g) (ha : PB X a ba) (hb : PB X b bb) (hc : PB X c bc) (hm : lastMarks [op, op'] [b, c] = false := by with_unfolding_all rfl) :
    PQ X (.Compare a [op, op'] [b, c] pos) (qVal (bCh f g ba bb bc)) := by
  obtain ⟨r, h1, h2⟩ := ho
  obtain ⟨r', h3, h4⟩ := ho'
  exact pt_weak (pt_chain h1 h3 ha hb hc hm) fun σ H Q h => ch_ref h2 h4 (val_ref h)

/-! ### and, or, not: tests, values -/
def qAnd (p q : BTT) : BTT := fun env Q => p env fun c => ∃ c2, (c = true → q env fun b => b = c2) ∧ Q (c && c2)
def qOr (p q : BTT) : BTT := fun env Q => p env fun c => ∃ c2, (c = false → q env fun b => b = c2) ∧ Q (c || c2)
def qNot (p : BTT) : BTT := fun env Q => p env fun c => Q (!c)
def qYes : BTT := fun _ Q => Q true
variable {p q : BTT} {rest : List Expr}
theorem and_ref {K : PySem.W.Frag} {σ : L2.St} {H : Hp} {Q : Bool → Hp → Prop} (h : tOf K (qAnd p q) σ H Q) : tAnd (tOf K p) (tOf K q) σ H Q := by
  obtain ⟨S, env, Qd, hS, hE, hb, hQ⟩ := h
  refine ⟨S, env, _, hS, hE, hb, fun c S1 H1 e1 ⟨c2, q1, q2⟩ => ?_⟩
  cases c with
  | true =>
    refine iteT ?_
    refine ⟨S1, env, _, e1.le, hE.mono e1.s, q1 rfl, fun c S2 H2 e2 z => ?_⟩
    subst z
    exact hQ _ S2 H2 (e1.trans e2) q2
  | false =>
    refine iteF ?_
    exact hQ _ S1 H1 e1 q2
theorem or_ref {K : PySem.W.Frag} {σ : L2.St} {H : Hp} {Q : Bool → Hp → Prop} (h : tOf K (qOr p q) σ H Q) : tOr (tOf K p) (tOf K q) σ H Q := by
  obtain ⟨S, env, Qd, hS, hE, hb, hQ⟩ := h
  refine ⟨S, env, _, hS, hE, hb, fun c S1 H1 e1 ⟨c2, q1, q2⟩ => ?_⟩
  cases c with
  | false =>
    refine iteF ?_
    refine ⟨S1, env, _, e1.le, hE.mono e1.s, q1 rfl, fun c S2 H2 e2 z => ?_⟩
    subst z
    exact hQ _ S2 H2 (e1.trans e2) q2
  | true =>
    refine iteT ?_
    exact hQ _ S1 H1 e1 q2
abbrev PWq (X : Cx) (e : Expr) (b : BTT) : Prop := PW X e (tOf X.K b)
theorem w_and1 (h : PQ X a p) : PWq X (.BoolOp .And [a] pos) p := pw_and1 h
theorem w_or1 (h : PQ X a p) : PWq X (.BoolOp .Or [a] pos) p := pw_or1 h
theorem w_and (h : PQ X a p) (k : PWq X (.BoolOp .And (b :: rest) pos) q) : PWq X (.BoolOp .And (a :: b :: rest) pos) (qAnd p q) := pw_weak (pw_and h k) fun _ _ _ z => and_ref z
theorem w_or (h : PQ X a p) (k : PWq X (.BoolOp .Or (b :: rest) pos) q) : PWq X (.BoolOp .Or (a :: b :: rest) pos) (qOr p q) := pw_weak (pw_or h k) fun _ _ _ z => or_ref z
theorem q_w (h : PWq X e p) : PQ X e p := h.pt
theorem q_not (h : PQ X a p) : PQ X (.UnaryOp .Not a pos) (qNot p) := pt_weak (pt_not h) fun σ H Q ⟨S, env, Qd, hS, hE, hb, hQ⟩ => ⟨S, env, _, hS, hE, hb, fun c S' H' e z => hQ (!c) S' H' e z⟩
def bAnd (ba bb : BT) : BT := fun env Q => ba env fun x => asB x fun c => ∃ c2, (c = true → bb env fun y => asB y fun b => b = c2) ∧ Q (.sh (.bl (c && c2)))
def bOr (ba bb : BT) : BT := fun env Q => ba env fun x => asB x fun c => ∃ c2, (c = false → bb env fun y => asB y fun b => b = c2) ∧ Q (.sh (.bl (c || c2)))
def bNot (ba : BT) : BT := fun env Q => ba env fun x => asB x fun c => Q (.sh (.bl (!c)))
theorem b_one {op} (h : PB X a ba) : PB X (.BoolOp op [a] pos) ba := pe_one h
theorem b_and (h : PB X a ba) (k : PB X (.BoolOp .And (b :: rest) pos) bb) : PB X (.BoolOp .And (a :: b :: rest) pos) (bAnd ba bb) := pe_weak (pe_and h k) fun σ H Q ⟨S, env, Qd, hS, hE, hb, hQ⟩ => by
  refine ⟨S, env, _, hS, hE, hb, fun v S1 H1 t1 O1 q1 => ?_⟩
  obtain ⟨c, rfl, c2, q2, q3⟩ := asB_at q1
  obtain ⟨S2, e2, _, a2⟩ := O1.share
  cases a2
  refine ⟨c, rfl, ?_⟩
  cases c with
  | true =>
    refine iteT ⟨S2, env, _, e2.le, hE.mono e2.s, q2 rfl, fun u S3 H3 t3 O3 q4 => ?_⟩
    obtain ⟨c3, rfl, q5⟩ := asB_at q4
    subst q5
    exact hQ u S3 H3 _ (O3.from e2) q3
  | false => exact iteF (hQ _ S2 H1 _ ((Out.sh e2.le (.bl false)).from e2) q3)
theorem b_or (h : PB X a ba) (k : PB X (.BoolOp .Or (b :: rest) pos) bb) : PB X (.BoolOp .Or (a :: b :: rest) pos) (bOr ba bb) := pe_weak (pe_or h k) fun σ H Q ⟨S, env, Qd, hS, hE, hb, hQ⟩ => by
  refine ⟨S, env, _, hS, hE, hb, fun v S1 H1 t1 O1 q1 => ?_⟩
  obtain ⟨c, rfl, c2, q2, q3⟩ := asB_at q1
  obtain ⟨S2, e2, _, a2⟩ := O1.share
  cases a2
  refine ⟨c, rfl, ?_⟩
  cases c with
  | false =>
    refine iteF ⟨S2, env, _, e2.le, hE.mono e2.s, q2 rfl, fun u S3 H3 t3 O3 q4 => ?_⟩
    obtain ⟨c3, rfl, q5⟩ := asB_at q4
    subst q5
    exact hQ u S3 H3 _ (O3.from e2) q3
  | true => exact iteT (hQ _ S2 H1 _ ((Out.sh e2.le (.bl true)).from e2) q3)
theorem b_not (h : PB X a ba) : PB X (.UnaryOp .Not a pos) (bNot ba) := pe_weak (pe_not h) fun σ H Q ⟨S, env, Qd, hS, hE, hb, hQ⟩ => by
  refine ⟨S, env, _, hS, hE, hb, fun v S1 H1 t1 O1 q1 => ?_⟩
  obtain ⟨c, rfl, q2⟩ := asB_at q1
  obtain ⟨S2, e2, _, a2⟩ := O1.share
  cases a2
  exact ⟨c, rfl, hQ _ S2 H1 _ ((Out.sh e2.le (.bl _)).from e2) q2⟩
/-- x if c else y -/
def bIf (c : BTT) (ba bb : BT) : BT := fun env Q => c env fun k => ∃ t, (k = true → ba env fun x => x = t) ∧ (k = false → bb env fun x => x = t) ∧ Q t
theorem b_if (hc : PQ X c p) (ha : PB X a ba) (hb : PB X b bb) : PB X (.IfExp c a b pos) (bIf p ba bb) := pe_weak (pe_ifExp hc ha hb) fun σ H Q ⟨S, env, Qd, hS, hE, hh, hQ⟩ => by
  refine ⟨S, env, _, hS, hE, hh, fun k S1 H1 e1 ⟨t, q1, q2, q3⟩ => ?_⟩
  cases k with
  | true => exact iteT ⟨S1, env, _, e1.le, hE.mono e1.s, q1 rfl, fun u S2 H2 t2 O2 z => by subst z; exact hQ u S2 H2 _ (O2.from e1) q3⟩
  | false => exact iteF ⟨S1, env, _, e1.le, hE.mono e1.s, q2 rfl, fun u S2 H2 t2 O2 z => by subst z; exact hQ u S2 H2 _ (O2.from e1) q3⟩

/-! ### argument lists, displays -/
def baN : BA := fun _ Q => Q []
def baC (b : BT) (bs : BA) : BA := fun env Q => b env fun t => bs env fun ts => Q (t :: ts)
variable {bs : BA}
theorem a_nil : PAb X [] baN := pa_weak pa_nil fun σ H Q ⟨S, env, Qd, hS, hE, hb, hQ⟩ => hQ [] S H [] ⟨.refl hS, [], .nil, Frs.nil⟩ hb
theorem a_cons (ha : PB X a ba) (hr : PAb X es bs) (hs : starEach (a :: es) X.env = (false, eval a X.env) :: starEach es X.env := by rfl) : PAb X (a :: es) (baC ba bs) := pa_weak (pa_cons ha hr hs) fun σ H Q ⟨S, env, Qd, hS, hE, hb, hQ⟩ => by
  refine ⟨S, env, _, hS, hE, hb, fun x S1 H1 t1 O1 q1 => ?_⟩
  obtain ⟨e1, L1, r1, f1⟩ := O1
  refine ⟨S1, env, _, e1.le, hE.mono e1.s, q1, fun vs S2 H2 ts O2 q2 => ?_⟩
  obtain ⟨e2, L2, r2, f2⟩ := O2
  refine hQ _ S2 H2 _ ⟨e1.trans e2, L1 ++ L2, .cons (r1.mono e2.s fun a m => ?_) r2, ?_, fun a m => ?_⟩ q2
  · obtain ⟨xs, h⟩ := r1.lst a m
    rw [h]
    exact e2.h a _ h
  · refine List.nodup_append.mpr ⟨f1.1, f2.1, fun a m b m2 z => ?_⟩
    subst z
    obtain ⟨xs, h⟩ := r1.lst a m
    rw [(f2.2 a m2).1] at h
    cases h
  · rcases List.mem_append.mp m with m | m
    · obtain ⟨xs, h⟩ := r1.lst a m
      exact ⟨(f1.2 a m).1, (e2.dom a _ h).trans (f1.2 a m).2⟩
    · exact ⟨Same.none e1.h (f2.2 a m).1, (f2.2 a m).2⟩
def T.isSh : T → Bool
  | .sh _ => true
  | _ => false
def mkTup (ts : List T) : T := if ts.all T.isSh = true then .sh (.tup (T.ds ts)) else .tp ts
def mkLst (ts : List T) : T := if ts.all T.isSh = true then .ow (T.ds ts) else .ows ts
theorem ress_sh {K : PySem.W.Frag} {S H : Hp} : ∀ {ts : List T} {vs : List V} {L : List Addr}, Ress K S H vs ts L → ts.all T.isSh = true → L = []
  | _, _, _, .nil, _ => rfl
  | _, _, _, .cons h r, k => by
    rw [List.all_cons, Bool.and_eq_true] at k
    cases h with
    | sh a => rw [ress_sh r k.2] <;> rfl
    | _ => cases k.1
def bTup (bs : BA) : BT := fun env Q => bs env fun ts => ts.length ≤ 100000 ∧ Q (mkTup ts)
def bLst (bs : BA) : BT := fun env Q => bs env fun ts => ts.length ≤ 100000 ∧ Q (mkLst ts)
theorem line_le {n : Nat} (h : n ≤ 100000) : n ≤ sizeLine := Nat.le_trans h (by decide)
theorem b_tup {x1} (h : PAb X es bs) : PB X (.Tuple es x1 pos) (bTup bs) := pe_weak (pe_tup h) fun σ H Q ⟨S, env, Qd, hS, hE, hb, hQ⟩ => by
  refine ⟨S, env, _, hS, hE, hb, fun vs S1 H1 ts O ⟨hl, q⟩ => ?_⟩
  have hl2 : vs.length = ts.length := by obtain ⟨_, _, r, _⟩ := O; exact r.length
  refine ⟨by rw [hl2]; exact line_le hl, fun p hp => ?_⟩
  unfold mkTup at q
  split at q
  · obtain ⟨S2, e2, _, a2⟩ := O.share
    exact hQ _ _ _ _ ((Out.tup e2.le hp a2).from e2) q
  · exact hQ _ _ _ _ (Out.tp O hp) q
theorem b_lst (h : PAb X es bs) : PB X (.List es pos) (bLst bs) := pe_weak (pe_lst h) fun σ H Q ⟨S, env, Qd, hS, hE, hb, hQ⟩ => by
  refine ⟨S, env, _, hS, hE, hb, fun vs S1 H1 ts O ⟨hl, q⟩ => ?_⟩
  have hl2 : vs.length = ts.length := by obtain ⟨_, _, r, _⟩ := O; exact r.length
  refine ⟨by rw [hl2]; exact line_le hl, fun p hp => ?_⟩
  unfold mkLst at q
  split at q
  · obtain ⟨S2, e2, _, a2⟩ := O.share
    exact hQ _ _ _ _ ((Out.ow e2.le hp a2).from e2) q
  · exact hQ _ _ _ _ (Out.ows O hp) q

/-! ### calls -/
abbrev SpD := List D → (T → Prop) → Prop
def spOf (K : PySem.W.Frag) (sp : SpD) : Sp := fun vs H Q _ => ∃ (S : Hp) (ds : List D) (Qd : T → Prop), Same S H ∧ Ats K S vs ds ∧ sp ds Qd ∧ ∀ v S' H' t, Out K S H v t S' H' → Qd t → Q v H'
/-- a def of the module that keeps a promise over data -/
structure CalD (P : Program) (w : PySem.World) (K : PySem.W.Frag) (mg : Str → Option Value) (base : Heap) (k : Nat) (x : Str) (sp : SpD) : Prop where
  ex : ∃ (f : Addr) (fd : FuncData) (ps : List Str), FnOk P w K mg base CX0 k f fd ps (spOf K sp) ∧ mg x = some (.ref f) ∧ PySem.W.keepIn K (.ref f) = true ∧ Binds K fd ps []
theorem CalD.mono {P : Program} {w : PySem.World} {K : PySem.W.Frag} {mg : Str → Option Value} {base : Heap} {j k : Nat} {x : Str} {sp : SpD} (c : CalD P w K mg base j x sp) (h : j ≤ k) : CalD P w K mg base k x sp := by
  obtain ⟨f, fd, ps, F, r⟩ := c.ex
  exact ⟨f, fd, ps, F.mono h, r⟩
theorem CalD.imp {P : Program} {w : PySem.World} {K : PySem.W.Frag} {mg : Str → Option Value} {base : Heap} {k : Nat} {x : Str} {sp sp' : SpD} (c : CalD P w K mg base k x sp) (h : ∀ ds Q, sp' ds Q → sp ds Q) : CalD P w K mg base k x sp' := by
  obtain ⟨f, fd, ps, F, r⟩ := c.ex
  exact ⟨f, fd, ps, F.imp fun vs H Q E ⟨S, ds, Qd, a1, a2, a3, a4⟩ => ⟨S, ds, Qd, a1, a2, h _ _ a3, a4⟩, r⟩
def bCall (sp : SpD) (bs : BA) : BT := fun env Q => bs env fun ts => sp (T.ds ts) Q
theorem b_call {k : Nat} {x : Str} {sp : SpD} {p : Pos} (c : CalD X.prog X.w X.K X.mg X.base k x sp) (hr : Room k X.A) (hg : Gl X x) (ha : PAb X (a :: es) bs)
    (hdb : (x == ("__debug__" : Str)) = false := by decide) (he : starEach (a :: es) X.env = (false, eval a X.env) :: starEach es X.env := by rfl) (hpl : (backTo pos (starEach es X.env)).any (·.1) = false := by rfl) :
    PB X (.Call (.Name x p) (a :: es) [] pos) (bCall sp bs) := by
  obtain ⟨f, fd, ps, F, hm, kp, b⟩ := c.ex
  refine pe_weak (pe_call F hr hg hm kp b .nil pass0 ha hdb he hpl) fun σ H Q ⟨S, env, Qd, hS, hE, hb, hQ⟩ => ?_
  refine ⟨S, env, _, hS, hE, hb, fun vs S1 H1 ts O q => ?_⟩
  obtain ⟨S2, e2, _, a2⟩ := O.share
  rw [List.append_nil]
  exact ⟨S2, _, Qd, e2.le, a2, q, fun v S' H' t O' q' => hQ v S' H' t (O'.from e2) q'⟩
/-- a built-in by its name -/
def RefL (K : PySem.W.Frag) (r : List V → Hp → VK → Prop) (f : SpD) : Prop := ∀ S H vs ds (Q : VK) (Qd : T → Prop), Same S H → Ats K S vs ds → f ds Qd → (∀ u S' H' t, Out K S H u t S' H' → Qd t → Q u H') → r vs H Q
def BlD (X : Cx) (g : Value) (f : SpD) : Prop := ∃ r, CallR X g r ∧ RefL X.K r f
theorem cb_ref {K : PySem.W.Frag} {r : List V → Hp → VK → Prop} {f : SpD} (hr : RefL K r f) {σ : L2.St} {H : Hp} {Q : VK} (h : eOf K (bCall f bs) σ H Q) : tCB r (aOf K bs) σ H Q := by
  obtain ⟨S, env, Qd, hS, hE, hb, hQ⟩ := h
  refine ⟨S, env, _, hS, hE, hb, fun vs S1 H1 ts O q => ?_⟩
  obtain ⟨S2, e2, _, a2⟩ := O.share
  exact hr S2 H1 vs _ Q Qd e2.le a2 q fun v S' H' t O' q' => hQ v S' H' t (O'.from e2) q'
theorem b_blt {f : SpD} {id : String} {x : Str} {p : Pos} (hc : BlD X (.builtin id) f) (hm : X.mg x = none) (hg : Gl X x) (hv : bootBuiltins x = some (.builtin id)) (ha : PAb X (a :: es) bs) (hn : x ≠ "__name__" := by decide) (hdb : (x == ("__debug__" : Str)) = false := by decide)
    (he : starEach (a :: es) X.env = (false, eval a X.env) :: starEach es X.env := by rfl) (hpl : (backTo pos (starEach es X.env)).any (·.1) = false := by rfl) : PB X (.Call (.Name x p) (a :: es) [] pos) (bCall f bs) := by
  obtain ⟨r, h1, h2⟩ := hc
  exact pe_weak (pe_callB h1 hg hm hv ha hn hdb he hpl) fun σ H Q h => cb_ref h2 h
theorem b_bty {f : SpD} {id : String} {x : Str} {p : Pos} (hc : BlD X (.type id) f) (hm : X.mg x = none) (hg : Gl X x) (hv : bootBuiltins x = some (.type id)) (ha : PAb X (a :: es) bs) (hn : x ≠ "__name__" := by decide) (hdb : (x == ("__debug__" : Str)) = false := by decide)
    (he : starEach (a :: es) X.env = (false, eval a X.env) :: starEach es X.env := by rfl) (hpl : (backTo pos (starEach es X.env)).any (·.1) = false := by rfl) : PB X (.Call (.Name x p) (a :: es) [] pos) (bCall f bs) := by
  obtain ⟨r, h1, h2⟩ := hc
  exact pe_weak (pe_callTy h1 hg hm hv ha hn hdb he hpl) fun σ H Q h => cb_ref h2 h
end
end W

/-! FC: operators and built-ins over data. -/
namespace W
open PySem L2

theorem OpR_or {X : Cx} {f : Value → Value → Sem Value} {r r' : R2} (h : OpR X f r) (h' : OpR X f r') : OpR X f (fun x y H Q => r x y H Q ∨ r' x y H Q) := by
  intro pins s σ H x y v u Q I rx ry q
  rcases q with q | q
  · exact h pins s σ H x y v u Q I rx ry q
  · exact h' pins s σ H x y v u Q I rx ry q
theorem CallR_or {X : Cx} {f : Value} {r r' : List V → Hp → VK → Prop} (h : CallR X f r) (h' : CallR X f r') : CallR X f (fun x H Q => r x H Q ∨ r' x H Q) := by
  intro pins s σ H x u Q I rx q
  rcases q with q | q
  · exact h pins s σ H x u Q I rx q
  · exact h' pins s σ H x u Q I rx q

/-! ### ints -/
def fI (C : Int → Int → Prop) (g : Int → Int → D) : F2
  | .int i, .int j, Q => C i j ∧ Q (.sh (g i j))
  | _, _, _ => False
def fI0 (g : Int → Int → D) : F2
  | .int i, .int j, Q => Q (.sh (g i j))
  | _, _, _ => False
section
variable {X : Cx} {K : PySem.W.Frag}
theorem ref_I {C : Int → Int → Prop} {g : Int → Int → V} {gd : Int → Int → D} (hg : ∀ i j S, At K S (g i j) (gd i j)) : RefR2 K (rI C g) (fI C gd) := fun S H v w d e Q Qd hS h1 h2 hf hQ => by
  cases h1 <;> cases h2 <;> first | exact hf.elim | exact ⟨_, _, rfl, rfl, hf.1, hQ _ S H _ (.sh hS (hg _ _ S)) hf.2⟩
theorem ref_I0 {g : Int → Int → V} {gd : Int → Int → D} (hg : ∀ i j S, At K S (g i j) (gd i j)) : RefR2 K (rI0 g) (fI0 gd) := fun S H v w d e Q Qd hS h1 h2 hf hQ => by
  cases h1 <;> cases h2 <;> first | exact hf.elim | exact ⟨_, _, rfl, rfl, hQ _ S H _ (.sh hS (hg _ _ S)) hf⟩
abbrev fSub : F2 := fI0 fun i j => .int (i - j)
abbrev fMod : F2 := fI (fun _ j => 0 < j) fun i j => .int (i % j)
abbrev fDiv : F2 := fI CDiv fun i j => .int (i / j)
abbrev fPow : F2 := fI CPow fun i j => .int (i ^ j.toNat)
abbrev fShl : F2 := fI CPow fun i j => .int (i * 2 ^ j.toNat)
abbrev fShr : F2 := fI (fun _ j => 0 ≤ j) fun i j => .int (i / 2 ^ j.toNat)
abbrev fAndI : F2 := fI0 fun i j => .int (Builtin.bitAnd i j)
abbrev fLt : F2 := fI0 fun i j => .bl (decide (i < j))
abbrev fLe : F2 := fI0 fun i j => .bl (decide (i ≤ j))
abbrev fGt : F2 := fI0 fun i j => .bl (decide (j < i))
abbrev fGe : F2 := fI0 fun i j => .bl (decide (j ≤ i))
theorem o_sub : OpD X (binaryOp .Sub) fSub := ⟨_, op_sub, ref_I0 fun _ _ _ => .int _⟩
theorem o_mod : OpD X (binaryOp .Mod) fMod := ⟨_, op_mod, ref_I fun _ _ _ => .int _⟩
theorem o_div : OpD X (binaryOp .FloorDiv) fDiv := ⟨_, op_fdiv, ref_I fun _ _ _ => .int _⟩
theorem o_pow : OpD X (binaryOp .Pow) fPow := ⟨_, op_pow, ref_I fun _ _ _ => .int _⟩
theorem o_shl : OpD X (binaryOp .LShift) fShl := ⟨_, op_shl, ref_I fun _ _ _ => .int _⟩
theorem o_shr : OpD X (binaryOp .RShift) fShr := ⟨_, op_shr, ref_I fun _ _ _ => .int _⟩
theorem o_andI : OpD X (binaryOp .BitAnd) fAndI := ⟨_, op_and, ref_I0 fun _ _ _ => .int _⟩
theorem o_lt : OpD X (compareOp .Lt) fLt := ⟨_, op_lt, ref_I0 fun _ _ _ => .bl _⟩
theorem o_le : OpD X (compareOp .LtE) fLe := ⟨_, op_le, ref_I0 fun _ _ _ => .bl _⟩
theorem o_gt : OpD X (compareOp .Gt) fGt := ⟨_, op_gt, ref_I0 fun _ _ _ => .bl _⟩
theorem o_ge : OpD X (compareOp .GtE) fGe := ⟨_, op_ge, ref_I0 fun _ _ _ => .bl _⟩

/-! ### + and * -/
def fAdd : F2
  | .int i, .int j, Q => Q (.sh (.int (i + j)))
  | .str x, .str y, Q => x.length + y.length ≤ 100000 ∧ Q (.sh (.str (x ++ y)))
  | .lst a, .lst b, Q => a.length + b.length ≤ 100000 ∧ Q (.ow (a ++ b))
  | .tup a, .tup b, Q => a ≠ [] ∧ b ≠ [] ∧ a.length + b.length ≤ 100000 ∧ Q (.sh (.tup (a ++ b)))
  | _, _, _ => False
theorem o_add : OpD X (binaryOp .Add) fAdd := by
  refine ⟨_, OpR_or op_add (OpR_or op_add_str (OpR_or op_cat op_catT)), fun S H v w d e Q Qd hS h1 h2 hf hQ => ?_⟩
  cases h1 with
  | int i => cases h2 with
    | int j => exact .inl ⟨i, j, rfl, rfl, hQ _ S H _ (.sh hS (.int _)) hf⟩
    | _ => exact hf.elim
  | str x => cases h2 with
    | str y => exact .inr (.inl ⟨x, y, rfl, rfl, line_le hf.1, hQ _ S H _ (.sh hS (.str _)) hf.2⟩)
    | _ => exact hf.elim
  | @lst p xs a hp ha => cases h2 with
    | @lst q ys b hq hb =>
      refine .inr (.inr (.inl ⟨p, q, xs, ys, rfl, rfl, hS _ _ hp, hS _ _ hq, by rw [ha.length, hb.length]; exact line_le hf.1, fun r hr => ?_⟩))
      exact hQ _ _ _ _ (.ow hS hr (ha.append hb)) hf.2
    | _ => exact hf.elim
  | @tup p xs a hp ha => cases h2 with
    | @tup q ys b hq hb =>
      obtain ⟨n1, n2, hl, hf⟩ := hf
      have m1 : xs ≠ [] := fun z => n1 (List.length_eq_zero_iff.mp (by rw [← ha.length, z] <;> rfl))
      have m2 : ys ≠ [] := fun z => n2 (List.length_eq_zero_iff.mp (by rw [← hb.length, z] <;> rfl))
      exact .inr (.inr (.inr ⟨p, q, xs, ys, rfl, rfl, same_t hS hp, same_t hS hq, m1, by rw [ha.length, hb.length]; exact line_le hl, fun z => (m2 z).elim, fun _ r hr => hQ _ _ _ _ (.tup hS hr (ha.append hb)) hf⟩))
    | _ => exact hf.elim
  | _ => cases h2 <;> exact hf.elim
def fMul : F2
  | .int i, .int j, Q => CMul i j ∧ Q (.sh (.int (i * j)))
  | .lst a, .int k, Q => -1000 ≤ k ∧ k ≤ 1000 ∧ a.length * k.toNat ≤ 100000 ∧ Q (.ow (List.replicate k.toNat a).flatten)
  | _, _, _ => False
theorem Ats.flat {S : Hp} {ds : List D} {vs : List V} (h : Ats K S vs ds) : ∀ n, Ats K S (List.replicate n vs).flatten (List.replicate n ds).flatten
  | 0 => .nil
  | n + 1 => by
    rw [List.replicate_succ, List.replicate_succ, List.flatten_cons, List.flatten_cons]
    exact h.append (Ats.flat h n)
theorem o_mul : OpD X (binaryOp .Mult) fMul := by
  refine ⟨_, OpR_or op_mul op_rep, fun S H v w d e Q Qd hS h1 h2 hf hQ => ?_⟩
  cases h1 with
  | int i => cases h2 with
    | int j => exact .inl ⟨i, j, rfl, rfl, hf.1, hQ _ S H _ (.sh hS (.int _)) hf.2⟩
    | _ => exact hf.elim
  | @lst p xs a hp ha => cases h2 with
    | int k =>
      obtain ⟨k1, k2, hl, hf⟩ := hf
      exact .inr ⟨p, k, xs, rfl, rfl, hS _ _ hp, by omega, by omega, by rw [ha.length]; exact line_le hl, fun r hr => hQ _ _ _ _ (.ow hS hr (ha.flat _)) hf⟩
    | _ => exact hf.elim
  | _ => cases h2 <;> exact hf.elim

/-! ### is None -/
def fIsN (neg : Bool) : F2
  | .abs P, .non, Q => (∀ v S, P v S → v ≠ .non) ∧ Q (.sh (.bl neg))
  | .non, .non, Q => Q (.sh (.bl !neg))
  | _, .non, Q => Q (.sh (.bl neg))
  | _, _, _ => False
theorem ref_isN {neg : Bool} : RefR2 K (fun x y H Q => y = .non ∧ Q (.bl (if neg then !decide (x = .non) else decide (x = .non))) H) (fIsN neg) := by
  intro S H v w d e Q Qd hS h1 h2 hf hQ
  cases h2 with
  | non =>
    refine ⟨rfl, ?_⟩
    have yes : v = .non → Qd (.sh (.bl !neg)) → Q (.bl (if neg then !decide (v = .non) else decide (v = .non))) H := fun e q => by
      subst e
      have := hQ (.bl !neg) S H _ (.sh hS (.bl _)) q
      cases neg <;> exact this
    have no : v ≠ .non → Qd (.sh (.bl neg)) → Q (.bl (if neg then !decide (v = .non) else decide (v = .non))) H := fun e q => by
      rw [decide_eq_false e]
      have := hQ (.bl neg) S H _ (.sh hS (.bl _)) q
      cases neg <;> exact this
    cases h1 with
    | non => exact yes rfl hf
    | abs hP => exact no (hf.1 _ _ (hP S (.refl S))) hf.2
    | _ => exact no (fun z => nomatch z) hf
  | _ => cases h1 <;> exact hf.elim
theorem o_is : OpD X (compareOp .Is) (fIsN false) := ⟨_, op_isN, ref_isN (neg := false)⟩
theorem o_isnot : OpD X (compareOp .IsNot) (fIsN true) := ⟨_, op_notN, ref_isN (neg := true)⟩

/-! ### == at any depth -/
mutual
def D.py : D → PyData
  | .non => .none
  | .bl b => .bool b
  | .int i => .int i
  | .str x => .str x
  | .lst ds => .list (D.pys ds)
  | .tup ds => .tuple (D.pys ds)
  | .flst ds => .list (D.pys ds)
  | .abs _ => .none
  | .bn _ _ _ => .none
  | .dt _ => .none
  | .exc _ _ => .none
  | .md _ _ => .none
  | .mdn _ => .none
def D.pys : List D → List PyData
  | [] => []
  | d :: ds => d.py :: D.pys ds
end
/- no deeper than n, nothing odd within -/
mutual
def D.fine : Nat → D → Bool
  | _, .non => true
  | _, .bl _ => true
  | _, .int _ => true
  | _, .str x => PyData.strOk x
  | n, .lst ds => (match n with | 0 => false | m + 1 => D.fines m ds)
  | n, .tup ds => (match n with | 0 => false | m + 1 => D.fines m ds)
  | _, .flst _ => false
  | _, .abs _ => false
  | _, .bn _ _ _ => false
  | _, .dt _ => false
  | _, .exc _ _ => false
  | _, .md _ _ => false
  | _, .mdn _ => false
def D.fines : Nat → List D → Bool
  | _, [] => true
  | n, d :: ds => D.fine n d && D.fines n ds
end
theorem pys_map : ∀ ds : List D, D.pys ds = ds.map D.py
  | [] => rfl
  | d :: ds => by rw [D.pys, pys_map ds]; rfl
theorem fines_all {n : Nat} : ∀ {ds : List D}, D.fines n ds = true ↔ ∀ d ∈ ds, d.fine n = true
  | [] => by simp [D.fines]
  | d :: ds => by simp [D.fines, fines_all]
mutual
theorem at_dp {S : Hp} : ∀ {n : Nat} {d : D} {v : V}, At K S v d → d.fine n = true → Dp K S v d.py
  | _, _, _, .non, _ => .non
  | _, _, _, .bl b, _ => .bl b
  | _, _, _, .int i, _ => .int i
  | _, _, _, .str x, _ => .str x
  | 0, _, _, .lst _ _, h => nomatch h
  | 0, _, _, .tup _ _, h => nomatch h
  | _ + 1, _, _, .lst h a, k => .lst (.inl (.inl h)) (ats_dp a k)
  | _ + 1, _, _, .tup h a, k => .tup h (ats_dp a k)
  | _, _, _, .flst _ _, h => by simp [D.fine] at h
  | _, _, _, .abs _, h => by simp [D.fine] at h
  | _, _, _, .bn _ _ _ _ _, h => by simp [D.fine] at h
  | _, _, _, .dt _, h => by simp [D.fine] at h
  | _, _, _, .exc _ _, h => by simp [D.fine] at h
  | _, _, _, .md _ _ _, h => by simp [D.fine] at h
  | _, _, _, .mdn _, h => by simp [D.fine] at h
theorem ats_dp {S : Hp} : ∀ {n : Nat} {ds : List D} {vs : List V}, Ats K S vs ds → D.fines n ds = true → DpAll K S vs (D.pys ds)
  | _, _, _, .nil, _ => .nil
  | _, _, _, .cons h a, k => by
    rw [D.fines, Bool.and_eq_true] at k
    exact .cons (at_dp h k.1) (ats_dp a k.2)
end
mutual
theorem fine_lay : ∀ {n : Nat} {d : D}, d.fine n = true → d.py.canLay0 = true ∧ d.py.depth ≤ n
  | _, .non, _ => by simp [D.py, PyData.canLay0, PyData.depth]
  | _, .bl _, _ => by simp [D.py, PyData.canLay0, PyData.depth]
  | _, .int _, _ => by simp [D.py, PyData.canLay0, PyData.depth]
  | _, .str x, h => by simpa [D.py, PyData.canLay0, PyData.depth, D.fine] using h
  | 0, .lst _, h => nomatch h
  | 0, .tup _, h => nomatch h
  | n + 1, .lst ds, h => by
    obtain ⟨a, b⟩ := fines_lay (n := n) (ds := ds) h
    simp only [D.py, PyData.canLay0, PyData.depth]
    exact ⟨a, by omega⟩
  | n + 1, .tup ds, h => by
    obtain ⟨a, b⟩ := fines_lay (n := n) (ds := ds) h
    simp only [D.py, PyData.canLay0, PyData.depth]
    exact ⟨a, by omega⟩
  | _, .flst _, h => by simp [D.fine] at h
  | _, .abs _, h => by simp [D.fine] at h
  | _, .bn _ _ _, h => by simp [D.fine] at h
  | _, .dt _, h => by simp [D.fine] at h
  | _, .exc _ _, h => by simp [D.fine] at h
  | _, .md _ _, h => by simp [D.fine] at h
  | _, .mdn _, h => by simp [D.fine] at h
theorem fines_lay : ∀ {n : Nat} {ds : List D}, D.fines n ds = true → PyData.canLayAll0 (D.pys ds) = true ∧ PyData.depthAll (D.pys ds) ≤ n
  | _, [], _ => by simp [D.pys, PyData.canLayAll0, PyData.depthAll]
  | n, d :: ds, h => by
    rw [D.fines, Bool.and_eq_true] at h
    obtain ⟨a, b⟩ := fine_lay h.1
    obtain ⟨a2, b2⟩ := fines_lay h.2
    simp only [D.pys, PyData.canLayAll0, PyData.depthAll, a, a2, Bool.and_self, true_and]
    omega
end
theorem fine_shaped {d : D} (h : d.fine 9 = true) : SeqAt.shaped d.py = true := by
  obtain ⟨a, b⟩ := fine_lay h
  unfold SeqAt.shaped
  rw [a, decide_eq_true (by omega : d.py.depth ≤ 64)] <;> rfl
theorem same_dp_aux {S S' : Hp} (e : Same S S') {v : V} {d : D} (h : At K S v d) : At K S' v d := h.mono e
/-- Python's == -/
def deq (d e : D) : Bool := PyData.eqv d.py e.py
def fEq : F2 := fun d e Q => d.fine 9 = true ∧ e.fine 9 = true ∧ Q (.sh (.bl (deq d e)))
def fNe : F2 := fun d e Q => d.fine 9 = true ∧ e.fine 9 = true ∧ Q (.sh (.bl (!deq d e)))
theorem o_eq (hu : X.A.units + 64 < cLine) : OpD X (compareOp .Eq) fEq := ⟨_, op_eqD hu, fun S H v w d e Q Qd hS h1 h2 hf hQ =>
  ⟨_, _, at_dp (h1.mono hS) hf.1, at_dp (h2.mono hS) hf.2.1, fine_shaped hf.1, fine_shaped hf.2.1, hQ _ S H _ (.sh hS (.bl _)) hf.2.2⟩⟩
theorem o_ne (hu : X.A.units + 64 < cLine) : OpD X (compareOp .NotEq) fNe := ⟨_, op_neD hu, fun S H v w d e Q Qd hS h1 h2 hf hQ =>
  ⟨_, _, at_dp (h1.mono hS) hf.1, at_dp (h2.mono hS) hf.2.1, fine_shaped hf.1, fine_shaped hf.2.1, hQ _ S H _ (.sh hS (.bl _)) hf.2.2⟩⟩

/-! ### subscripts -/
def fIx : F2
  | .lst ds, .int i, Q => ∃ d, atI ds i = some d ∧ Q (.sh d)
  | .tup ds, .int i, Q => ∃ d, atI ds i = some d ∧ Q (.sh d)
  | .str x, .int i, Q => x.length ≤ 100000 ∧ ∃ c, atI x.cps.toList i = some c ∧ Q (.sh (.str ⟨#[c]⟩))
  | _, _, _ => False
theorem ats_at {S : Hp} {ds : List D} {vs : List V} {i : Int} {d : D} (a : Ats K S vs ds) (h : atI ds i = some d) : ∃ v, atI vs i = some v ∧ At K S v d := by
  unfold atI at h
  cases e : ixN ds.length i with
  | none => rw [e] at h; cases h
  | some j =>
    rw [e] at h
    obtain ⟨v, h1, h2⟩ := a.get (i := j) h
    refine ⟨v, ?_, h2⟩
    unfold atI
    rw [a.length, e]
    exact h1
abbrev rIxA (K : PySem.W.Frag) : R2 := fun x y H Q => rIxL K x y H Q ∨ (rIxT K x y H Q ∨ rIxS x y H Q)
theorem ix_all : IxR X (rIxA X.K) := ix_list.or (ix_tup.or ix_str)
theorem ref_ix : RefR2 K (rIxA K) fIx := by
  intro S H v w d e Q Qd hS h1 h2 hf hQ
  cases h1 with
  | @lst p xs a hp ha => cases h2 with
    | int i =>
      obtain ⟨d, h3, h4⟩ := hf
      obtain ⟨u, h5, h6⟩ := ats_at ha h3
      exact .inl ⟨p, xs, i, u, rfl, rfl, .inl (.inl (hS _ _ hp)), h5, hQ u S H _ (.sh hS h6) h4⟩
    | _ => exact hf.elim
  | @tup p xs a hp ha => cases h2 with
    | int i =>
      obtain ⟨d, h3, h4⟩ := hf
      obtain ⟨u, h5, h6⟩ := ats_at ha h3
      exact .inr (.inl ⟨p, xs, i, u, rfl, rfl, same_t hS hp, h5, hQ u S H _ (.sh hS h6) h4⟩)
    | _ => exact hf.elim
  | str x => cases h2 with
    | int i =>
      obtain ⟨hl, c, h3, h4⟩ := hf
      exact .inr (.inr ⟨x, i, c, rfl, rfl, line_le hl, h3, hQ _ S H _ (.sh hS (.str _)) h4⟩)
    | _ => exact hf.elim
  | _ => cases h2 <;> exact hf.elim
variable {a b e : Expr} {es : List Expr} {ba bb be : BT} {pos p2 : Pos}
theorem b_ix (ha : PB X a ba) (hb : PB X b bb) (hs : PlainIx b := by intro _ _; rfl) : PB X (.Subscript a b pos) (bOp fIx ba bb) := pe_weak (pe_ix ix_all ha hb hs) fun σ H Q h => op2_ref ref_ix h

/-! ### slices -/
abbrev BO := List (Option T) → (Option Int → Prop) → Prop
def oOf (K : PySem.W.Frag) (b : BO) : TO := fun σ H Q => ∃ (S : Hp) (env : List (Option T)) (Qd : Option Int → Prop), Same S H ∧ EnvS K S σ env ∧ b env Qd ∧ ∀ o S' H', Ext S H S' H' → Qd o → Q o H'
def boN : BO := fun _ Q => Q none
def asI (t : T) (Q : Int → Prop) : Prop := match t with
  | .sh (.int i) => Q i
  | _ => False
theorem asI_at {t : T} {Q : Int → Prop} (h : asI t Q) : ∃ i, t = .sh (.int i) ∧ Q i := by
  unfold asI at h
  split at h
  · exact ⟨_, rfl, h⟩
  · exact h.elim
def boS (b : BT) : BO := fun env Q => b env fun t => asI t fun i => Q (some i)
theorem po_weak {o : Option Expr} {t t' : TO} (h : PO X o t) (k : ∀ σ H Q, t' σ H Q → t σ H Q) : PO X o t' := ⟨fun p s σ H Q I q => h.run p s σ H Q I (k _ _ _ q)⟩
theorem bo_none : PO X none (oOf X.K boN) := po_weak po_none fun σ H Q ⟨S, env, Qd, hS, hE, hb, hQ⟩ => hQ none S H (.refl hS) hb
theorem bo_some (h : PB X e be) : PO X (some e) (oOf X.K (boS be)) := po_weak (po_some h) fun σ H Q ⟨S, env, Qd, hS, hE, hb, hQ⟩ => by
  refine ⟨S, env, _, hS, hE, hb, fun v S' H' t O q => ?_⟩
  obtain ⟨i, rfl, q⟩ := asI_at q
  obtain ⟨S2, e2, _, a2⟩ := O.share
  cases a2
  exact ⟨i, rfl, hQ _ S2 H' e2 q⟩
def cutD {α : Type} (xs : List α) (lo hi : Option Int) : List α := (xs.drop (HT.sIx xs.length 0 lo)).take (HT.sIx xs.length xs.length hi - HT.sIx xs.length 0 lo)
theorem Ats.cut {S : Hp} {ds : List D} {vs : List V} (a : Ats K S vs ds) (lo hi : Option Int) : Ats K S (cutV vs lo hi) (cutD ds lo hi) := by
  unfold cutV cutD
  rw [a.length]
  exact (a.drop _).take _
theorem sl_str0 : SlR X (fun x lo hi H Q => ∃ z, x = .str z ∧ z.length ≤ sizeLine ∧ Q (.str (cutS z lo hi)) H) := sl_str
def fSl (d : D) (lo hi : Option Int) (Q : T → Prop) : Prop := match d with
  | .lst ds => Q (.ow (cutD ds lo hi))
  | .flst ds => Q (.ow (cutD ds lo hi))
  | .str x => x.length ≤ 100000 ∧ Q (.sh (.str (cutS x lo hi)))
  | .tup ds => ¬ (HT.sIx ds.length 0 lo = 0 ∧ HT.sIx ds.length ds.length hi = ds.length) ∧ Q (.sh (.tup (cutD ds lo hi)))
  | _ => False
def bSl (b : BT) (l h : BO) : BT := fun env Q => b env fun t => l env fun lo => h env fun hi => fSl t.d lo hi Q
theorem b_slice {lo hi : Option Expr} {l h : BO} (he : PB X e be) (hl : PO X lo (oOf X.K l)) (hh : PO X hi (oOf X.K h)) : PB X (.Subscript e (.Slice lo hi none p2) pos) (bSl be l h) :=
  pe_weak (pe_slice (SlR.or sl_list (SlR.or sl_str0 sl_tup)) he hl hh) fun σ H Q ⟨S, env, Qd, hS, hE, hb, hQ⟩ => by
  refine ⟨S, env, _, hS, hE, hb, fun v S1 H1 t1 O1 q1 => ?_⟩
  obtain ⟨S2, e2, _, a2⟩ := O1.share
  refine ⟨S2, env, _, e2.le, hE.mono e2.s, q1, fun o1 S3 H3 e3 q3 => ?_⟩
  have e23 := e2.trans e3
  refine ⟨S3, env, _, e3.le, hE.mono e23.s, q3, fun o2 S4 H4 e4 q4 => ?_⟩
  have a4 := a2.mono (e3.s.trans e4.s)
  have e24 := e23.trans e4
  unfold fSl at q4
  generalize hd : t1.d = d at a4 q4
  cases a4 with
  | @lst p xs ds hp ha => exact .inl ⟨p, xs, rfl, .inl (.inl (e4.le _ _ hp)), fun r hr => hQ _ _ _ _ ((Out.ow e4.le hr (ha.cut _ _)).from e24) q4⟩
  | @flst p xs ds hp ha => exact .inl ⟨p, xs, rfl, same_l e4.le hp, fun r hr => hQ _ _ _ _ ((Out.ow e4.le hr (ha.cut _ _)).from e24) q4⟩
  | str x => exact .inr (.inl ⟨x, rfl, line_le q4.1, hQ _ _ _ _ ((Out.sh e4.le (.str _)).from e24) q4.2⟩)
  | @tup p xs ds hp ha =>
    exact .inr (.inr ⟨p, xs, rfl, same_t e4.le hp, by rw [ha.length]; exact q4.1, fun r hr => hQ _ _ _ _ ((Out.tup e4.le hr (ha.cut _ _)).from e24) q4.2⟩)
  | _ => exact q4.elim
def bRev (b : BT) : BT := fun env Q => b env fun t => match t.d with
  | .lst ds => Q (.ow ds.reverse)
  | _ => False
theorem b_rev {k : Nat} {p1 p3 p4 : Pos} (he : PB X e be) : PB X (.Subscript e (.Slice none none (some (.UnaryOp .USub (.Constant (.int 1) k p1) p3)) p4) pos) (bRev be) :=
  pe_weak (pe_revL he) fun σ H Q ⟨S, env, Qd, hS, hE, hb, hQ⟩ => by
  refine ⟨S, env, _, hS, hE, hb, fun v S1 H1 t1 O1 q1 => ?_⟩
  obtain ⟨S2, e2, _, a2⟩ := O1.share
  generalize hd : t1.d = d at a2 q1
  cases a2 with
  | @lst p xs ds hp ha => exact ⟨p, xs, rfl, .inl (.inl (e2.le _ _ hp)), fun r hr => hQ _ _ _ _ ((Out.ow e2.le hr ha.reverse).from e2) q1⟩
  | _ => exact q1.elim
theorem un_negD : UnR X (unaryOp .USub) (rU fun i => .int (-i)) := un_neg
def bNeg (b : BT) : BT := fun env Q => b env fun t => asI t fun i => Q (.sh (.int (-i)))
theorem b_neg (he : PB X e be) : PB X (.UnaryOp .USub e pos) (bNeg be) := pe_weak (pe_un un_neg he) fun σ H Q ⟨S, env, Qd, hS, hE, hb, hQ⟩ => by
  refine ⟨S, env, _, hS, hE, hb, fun v S1 H1 t1 O1 q1 => ?_⟩
  obtain ⟨i, rfl, q1⟩ := asI_at q1
  obtain ⟨S2, e2, _, a2⟩ := O1.share
  cases a2
  exact ⟨i, rfl, hQ _ _ _ _ ((Out.sh e2.le (.int _)).from e2) q1⟩

/-! ### built-ins by name -/
def fLen : SpD
  | [.lst ds], Q => Q (.sh (.int ds.length))
  | [.flst ds], Q => Q (.sh (.int ds.length))
  | [.tup ds], Q => Q (.sh (.int ds.length))
  | [.str x], Q => x.length ≤ 100000 ∧ Q (.sh (.int x.length))
  | _, _ => False
theorem ats1 {S : Hp} {vs : List V} {d : D} (h : Ats K S vs [d]) : ∃ v, vs = [v] ∧ At K S v d := by
  cases h with
  | cons h r => cases r; exact ⟨_, rfl, h⟩
theorem ats2 {S : Hp} {vs : List V} {d e : D} (h : Ats K S vs [d, e]) : ∃ v w, vs = [v, w] ∧ At K S v d ∧ At K S w e := by
  cases h with
  | cons h r =>
    obtain ⟨w, rfl, k⟩ := ats1 r
    exact ⟨_, w, rfl, h, k⟩
theorem c_len : BlD X (.builtin "len") fLen := by
  refine ⟨_, CallR_or call_len_seq call_len_str, fun S H vs ds Q Qd hS h hf hQ => ?_⟩
  unfold fLen at hf
  split at hf
  · obtain ⟨v, rfl, a⟩ := ats1 h
    cases a with
    | @lst p xs _ hp ha => exact .inl ⟨p, xs, rfl, .inl (.inl (.inl (hS _ _ hp))), by rw [ha.length]; exact hQ _ _ _ _ (.sh hS (.int _)) hf⟩
  · obtain ⟨v, rfl, a⟩ := ats1 h
    cases a with
    | @flst p xs _ hp ha => exact .inl ⟨p, xs, rfl, .inl (same_l hS hp), by rw [ha.length]; exact hQ _ _ _ _ (.sh hS (.int _)) hf⟩
  · obtain ⟨v, rfl, a⟩ := ats1 h
    cases a with
    | @tup p xs _ hp ha => exact .inl ⟨p, xs, rfl, .inr (same_t hS hp), by rw [ha.length]; exact hQ _ _ _ _ (.sh hS (.int _)) hf⟩
  · obtain ⟨v, rfl, a⟩ := ats1 h
    cases a with
    | str _ => exact .inr ⟨_, rfl, line_le hf.1, hQ _ _ _ _ (.sh hS (.int _)) hf.2⟩
  · exact hf.elim
def fList : SpD
  | [.lst ds], Q => Q (.ow ds)
  | [.flst ds], Q => Q (.ow ds)
  | [.tup ds], Q => Q (.ow ds)
  | _, _ => False
theorem c_list : BlD X (.type "list") fList := by
  refine ⟨_, call_list_of, fun S H vs ds Q Qd hS h hf hQ => ?_⟩
  unfold fList at hf
  split at hf
  · obtain ⟨v, rfl, a⟩ := ats1 h
    cases a with
    | @lst p xs _ hp ha => exact ⟨p, xs, rfl, .inl (.inl (.inl (hS _ _ hp))), fun l hl => hQ _ _ _ _ (.ow hS hl ha) hf⟩
  · obtain ⟨v, rfl, a⟩ := ats1 h
    cases a with
    | @flst p xs _ hp ha => exact ⟨p, xs, rfl, .inl (same_l hS hp), fun l hl => hQ _ _ _ _ (.ow hS hl ha) hf⟩
  · obtain ⟨v, rfl, a⟩ := ats1 h
    cases a with
    | @tup p xs _ hp ha => exact ⟨p, xs, rfl, .inr (same_t hS hp), fun l hl => hQ _ _ _ _ (.ow hS hl ha) hf⟩
  · exact hf.elim
def fTuple : SpD
  | [.lst ds], Q => Q (.sh (.tup ds))
  | [.tup ds], Q => Q (.sh (.tup ds))
  | _, _ => False
theorem c_tuple : BlD X (.type "tuple") fTuple := by
  refine ⟨_, call_tuple_of, fun S H vs ds Q Qd hS h hf hQ => ?_⟩
  unfold fTuple at hf
  split at hf
  · obtain ⟨v, rfl, a⟩ := ats1 h
    cases a with
    | @lst p xs _ hp ha => exact ⟨p, xs, rfl, .inl ⟨.inl (.inl (hS _ _ hp)), fun l hl => hQ _ _ _ _ (.tup hS hl ha) hf⟩⟩
  · obtain ⟨v, rfl, a⟩ := ats1 h
    cases a with
    | @tup p xs _ hp ha => exact ⟨p, xs, rfl, .inr ⟨same_t hS hp, hQ _ _ _ _ (.sh hS (.tup hp ha)) hf⟩⟩
  · exact hf.elim
def fSum : SpD := fun ds Q => ∃ ns : List Int, ds = [.lst (ns.map D.int)] ∧ Q (.sh (.int ns.sum))
theorem c_sum (hc : X.calm = true) : BlD X (.builtin "sum") fSum := by
  refine ⟨_, cr_sum hc, fun S H vs ds Q Qd hS h hf hQ => ?_⟩
  obtain ⟨ns, rfl, hf⟩ := hf
  obtain ⟨v, rfl, a⟩ := ats1 h
  cases a with
  | @lst p xs _ hp ha => exact ⟨p, ns, rfl, .inl (.inl (by rw [hS _ _ hp, ha.ints])), hQ _ _ _ _ (.sh hS (.int _)) hf⟩
def fMax1 : SpD := fun ds Q => ∃ ns : List Int, ds = [.lst (ns.map D.int)] ∧ ns ≠ [] ∧ ∀ m ∈ ns, (∀ y ∈ ns, y ≤ m) → Q (.sh (.int m))
theorem c_max1 (hc : X.calm = true) : BlD X (.builtin "max") fMax1 := by
  refine ⟨_, cr_max hc, fun S H vs ds Q Qd hS h hf hQ => ?_⟩
  obtain ⟨ns, rfl, hn, hf⟩ := hf
  obtain ⟨v, rfl, a⟩ := ats1 h
  cases a with
  | @lst p xs _ hp ha => exact ⟨p, ns, rfl, .inl (.inl (by rw [hS _ _ hp, ha.ints])), List.length_pos_iff.mpr hn, fun m h1 h2 => hQ _ _ _ _ (.sh hS (.int _)) (hf m h1 h2)⟩
def fMax2 : SpD
  | [.int i, .int j], Q => Q (.sh (.int (max i j)))
  | _, _ => False
def fMin2 : SpD
  | [.int i, .int j], Q => Q (.sh (.int (min i j)))
  | _, _ => False
theorem c_max2 (hc : X.calm = true) : BlD X (.builtin "max") fMax2 := by
  refine ⟨_, call_max2 hc, fun S H vs ds Q Qd hS h hf hQ => ?_⟩
  unfold fMax2 at hf
  split at hf
  · obtain ⟨v, w, rfl, a, b⟩ := ats2 h
    cases a; cases b
    rename_i i j
    have e : (if j > i then j else i) = max i j := by split <;> omega
    exact ⟨i, j, rfl, hQ _ _ _ _ (.sh hS (by rw [e]; exact .int _)) hf⟩
  · exact hf.elim
theorem c_min2 (hc : X.calm = true) : BlD X (.builtin "min") fMin2 := by
  refine ⟨_, call_min2 hc, fun S H vs ds Q Qd hS h hf hQ => ?_⟩
  unfold fMin2 at hf
  split at hf
  · obtain ⟨v, w, rfl, a, b⟩ := ats2 h
    cases a; cases b
    rename_i i j
    have e : (if j < i then j else i) = min i j := by split <;> omega
    exact ⟨i, j, rfl, hQ _ _ _ _ (.sh hS (by rw [e]; exact .int _)) hf⟩
  · exact hf.elim
/-- sorted of ints -/
def srt (ns : List Int) : List Int := ns.mergeSort (fun a b => decide (a ≤ b))
theorem srt_perm (ns : List Int) : (srt ns).Perm ns := List.mergeSort_perm _ _
theorem srt_le (ns : List Int) : (srt ns).Pairwise (· ≤ ·) := by
  have h := List.pairwise_mergeSort (le := fun (a b : Int) => decide (a ≤ b)) (fun a b c h1 h2 => by simp at *; omega) (fun a b => by simp; omega) ns
  exact h.imp fun h => by simpa using h
theorem sorted_one : ∀ {xs ys : List Int}, xs.Perm ys → xs.Pairwise (· ≤ ·) → ys.Pairwise (· ≤ ·) → xs = ys := fun p h1 h2 =>
  p.eq_of_pairwise (le := (· ≤ ·)) (fun _ _ _ _ h1 h2 => Int.le_antisymm h1 h2) h1 h2
def fSorted : SpD := fun ds Q => ∃ ns : List Int, ds = [.lst (ns.map D.int)] ∧ ns.length < 64 ∧ Q (.ow ((srt ns).map D.int))
theorem c_sorted : BlD X (.builtin "sorted") fSorted := by
  refine ⟨_, cr_sorted, fun S H vs ds Q Qd hS h hf hQ => ?_⟩
  obtain ⟨ns, rfl, hn, hf⟩ := hf
  obtain ⟨v, rfl, a⟩ := ats1 h
  cases a with
  | @lst p xs _ hp ha =>
    refine ⟨p, ns, rfl, .inl (.inl (by rw [hS _ _ hp, ha.ints])), hn, fun ns' q h1 h2 hq => ?_⟩
    have e : ns' = srt ns := sorted_one (h1.trans (srt_perm ns).symm) h2 (srt_le ns)
    subst e
    exact hQ _ _ _ _ (.ow hS hq (Ats.of_ints _)) hf
def fAll : SpD := fun ds Q => ∃ bs : List Bool, ds = [.lst (bs.map D.bl)] ∧ Q (.sh (.bl (bs.all id)))
theorem c_all (hc : X.calm = true) : BlD X (.builtin "all") fAll := by
  refine ⟨_, cr_all hc, fun S H vs ds Q Qd hS h hf hQ => ?_⟩
  obtain ⟨ns, rfl, hf⟩ := hf
  obtain ⟨v, rfl, a⟩ := ats1 h
  cases a with
  | @lst p xs _ hp ha => exact ⟨p, ns, rfl, .inl (.inl (by rw [hS _ _ hp, ha.bls])), hQ _ _ _ _ (.sh hS (.bl _)) hf⟩
/-- isinstance(x, T), T a built-in class -/
def D.ty : D → String
  | .non => "NoneType"
  | .bl _ => "bool"
  | .int _ => "int"
  | .str _ => "str"
  | .lst _ => "list"
  | .flst _ => "list"
  | .tup _ => "tuple"
  | .abs _ => ""
  | .bn _ _ _ => ""
  | .dt _ => "dict"
  | .exc _ _ => ""
  | .md _ _ => ""
  | .mdn _ => ""
def isT (t c : String) : Bool := t == c || (t == "bool" && c == "int")
theorem at_ty {S H : Hp} (hS : Same S H) {v : V} {d : D} (h : At K S v d) (n : d.ty ≠ "") : TyX K H v (.type d.ty) := by
  cases h with
  | non => exact .base .non
  | bl b => exact .base (.bl b)
  | int i => exact .base (.int i)
  | str x => exact .base (.str x)
  | lst hp _ => exact .base (.lst (hS _ _ hp))
  | flst hp _ => rcases hp with (hp | ⟨o, hp⟩) | ⟨o, its, n, h1, h2, _⟩
                 · exact .base (.lst (hS _ _ hp))
                 · exact .base (.frz (hS _ _ hp))
                 · exact .kList h1 h2
  | tup hp _ => rcases hp with (hp | ⟨o, hp⟩) | ⟨o, its, n, h1, h2, _⟩
                · exact .base (.tup (hS _ _ hp))
                · exact .fTuple (hS _ _ hp)
                · exact .kTuple h1 h2
  | abs _ => exact (n rfl).elim
  | bn _ _ _ _ _ => exact (n rfl).elim
  | exc _ _ => exact (n rfl).elim
  | md _ _ _ => exact (n rfl).elim
  | mdn _ => exact (n rfl).elim
  | dt hp => exact .base (.dT (hS _ _ hp))
end
end W

/-! FD: isinstance, what is walked, comprehensions over data. -/
namespace W
open PySem L2

theorem kit_all : ∀ t ∈ ["NoneType", "bool", "int", "str", "list", "tuple", "dict"], ∀ c ∈ ["int", "bool", "list", "tuple", "str"], kitB t c = some (isT t c) := by decide +kernel
section
variable {X : Cx} {K : PySem.W.Frag} {a b e : Expr} {es : List Expr} {ba bb be : BT} {pos p2 : Pos}
theorem kit_isT {t c : String} (h1 : t ∈ ["NoneType", "bool", "int", "str", "list", "tuple", "dict"]) (h2 : c ∈ ["int", "bool", "list", "tuple", "str"]) : PySem.W.kitOne K (.type t) (.type c) = some (isT t c) := kit_ty (kit_all t h1 c h2)
theorem D.ty_mem (d : D) (h : d.ty ≠ "") : d.ty ∈ ["NoneType", "bool", "int", "str", "list", "tuple", "dict"] := by
  cases d <;> first | (exact (h rfl).elim) | simp [D.ty]
def bIsi (c : String) (b : BT) : BT := fun env Q => b env fun t => t.d.ty ≠ "" ∧ Q (.sh (.bl (isT t.d.ty c)))
theorem b_isi {c : String} {x : Str} {p : Pos} {j : Expr} (hm : X.mg "isinstance" = none) (hg : Gl X "isinstance") (hj : PE X j (tC (.ty c))) (h2 : c ∈ ["int", "bool", "list", "tuple", "str"]) (ha : PB X a ba)
    (hs : starEach [a, j] X.env = (false, eval a X.env) :: starEach [j] X.env := by rfl) (hs2 : starEach [j] X.env = (false, eval j X.env) :: starEach [] X.env := by rfl) (hpl : (backTo pos (starEach [j] X.env)).any (·.1) = false := by rfl) :
    PB X (.Call (.Name "isinstance" p) [a, j] [] pos) (bIsi c ba) :=
  pe_weak (pe_callB call_isi hg hm PyProof.Rows.boot_isinstance (pa_cons ha (pa_cons hj pa_nil hs2) hs) (by decide) (by decide) hs hpl) fun σ H Q ⟨S, env, Qd, hS, hE, hb, hQ⟩ => by
  refine ⟨S, env, _, hS, hE, hb, fun v S1 H1 t1 O1 q1 => ?_⟩
  obtain ⟨S2, e2, _, a2⟩ := O1.share
  exact ⟨v, .ty c, .type t1.d.ty, .type c, _, rfl, .ty c, at_ty e2.le a2 q1.1, kit_isT (D.ty_mem _ q1.1) h2, hQ _ _ _ _ ((Out.sh e2.le (.bl _)).from e2) q1.2⟩

/-! ### what is walked -/
def IterOk (K : PySem.W.Frag) (J : It) (S : Hp) (items : List D) : Prop :=
  (∀ i H, Same S H → i < items.length → J.go i H) ∧ (∀ H, Same S H → J.stop items.length H) ∧
    ∀ i Sc H x H', i < items.length → Same S Sc → Same Sc H → J.yld i H x H' → ∃ d Sc', items[i]? = some d ∧ Ext Sc H Sc' H' ∧ At K Sc' x d
theorem IterOk.mono {J : It} {S S' : Hp} {items : List D} (h : IterOk K J S items) (e : Same S S') : IterOk K J S' items :=
  ⟨fun i H k => h.1 i H (e.trans k), fun H k => h.2.1 H (e.trans k), fun i Sc H x H' l k => h.2.2 i Sc H x H' l (e.trans k)⟩
abbrev BI := List (Option T) → (List D → Prop) → Prop
def iOf (K : PySem.W.Frag) (b : BI) : TI := fun σ H R => ∃ (S : Hp) (env : List (Option T)) (Qd : List D → Prop), Same S H ∧ EnvS K S σ env ∧ b env Qd ∧ ∀ J S' H' items, Ext S H S' H' → IterOk K J S' items → Qd items → R J H'
abbrev PIb (X : Cx) (tg e : Expr) (b : BI) : Prop := PI X tg e (iOf X.K b)
theorem pi_weak {tg : Expr} {t t' : TI} (h : PI X tg e t) (k : ∀ σ H Q, t' σ H Q → t σ H Q) : PI X tg e t' := ⟨fun p s σ H Q I q => h.run p s σ H Q I (k _ _ _ q)⟩
theorem iter_list {S : Hp} {p : Addr} {xs : List V} {ds : List D} (hp : SqL K S p xs) (ha : Ats K S xs ds) : IterOk K (Itl K p) S ds := by
  have hl := ha.length
  refine ⟨fun i H e h => ⟨xs, xs[i]'(by omega), same_l e hp, by simp [show i < xs.length by omega]⟩, fun H e => ⟨xs, same_l e hp, by omega⟩, fun i Sc H x H' h e1 e2 y => ?_⟩
  obtain ⟨rfl, y⟩ := y
  have hx := y xs (same_l (e1.trans e2) hp)
  obtain ⟨d, h1, h2⟩ := ha.getV hx
  exact ⟨d, Sc, h1, .refl e2, h2.mono e1⟩
theorem iter_tup {S : Hp} {p : Addr} {xs : List V} {ds : List D} (hp : SqT K S p xs) (ha : Ats K S xs ds) : IterOk K (Itt K p) S ds := by
  have hl := ha.length
  refine ⟨fun i H e h => ⟨xs, xs[i]'(by omega), same_t e hp, by simp [show i < xs.length by omega]⟩, fun H e => ⟨xs, same_t e hp, by omega⟩, fun i Sc H x H' h e1 e2 y => ?_⟩
  obtain ⟨rfl, y⟩ := y
  have hx := y xs (same_t (e1.trans e2) hp)
  obtain ⟨d, h1, h2⟩ := ha.getV hx
  exact ⟨d, Sc, h1, .refl e2, h2.mono e1⟩
def biL (b : BT) : BI := fun env Q => b env fun t => match t.d with
  | .lst ds => Q ds
  | .flst ds => Q ds
  | _ => False
def biT (b : BT) : BI := fun env Q => b env fun t => match t.d with
  | .tup ds => Q ds
  | _ => False
variable {tg : Expr}
theorem i_list (h : PB X e be) : PIb X tg e (biL be) := pi_weak (pi_list h) fun σ H R ⟨S, env, Qd, hS, hE, hb, hQ⟩ => by
  refine ⟨S, env, _, hS, hE, hb, fun v S1 H1 t1 O1 q1 => ?_⟩
  obtain ⟨S2, e2, _, a2⟩ := O1.share
  generalize hd : t1.d = d at a2 q1
  cases a2 with
  | @lst p xs ds hp ha => exact ⟨p, rfl, ⟨xs, .inl (.inl (e2.le _ _ hp))⟩, hQ _ S2 _ _ e2 (iter_list (.inl (.inl hp)) ha) q1⟩
  | @flst p xs ds hp ha => exact ⟨p, rfl, ⟨xs, same_l e2.le hp⟩, hQ _ S2 _ _ e2 (iter_list hp ha) q1⟩
  | _ => exact q1.elim
theorem i_tup (h : PB X e be) : PIb X tg e (biT be) := pi_weak (pi_tup h) fun σ H R ⟨S, env, Qd, hS, hE, hb, hQ⟩ => by
  refine ⟨S, env, _, hS, hE, hb, fun v S1 H1 t1 O1 q1 => ?_⟩
  obtain ⟨S2, e2, _, a2⟩ := O1.share
  generalize hd : t1.d = d at a2 q1
  cases a2 with
  | @tup p xs ds hp ha => exact ⟨p, rfl, ⟨xs, same_t e2.le hp⟩, hQ _ S2 _ _ e2 (iter_tup hp ha) q1⟩
  | _ => exact q1.elim
/-- lo, lo + c, .. n of them -/
def ups (lo c : Int) (n : Nat) : List Int := (List.range n).map fun (i : Nat) => lo + (i : Int) * c
theorem ups_len (lo c : Int) (n : Nat) : (ups lo c n).length = n := by unfold ups; simp
theorem ups_get {lo c : Int} {n i : Nat} (h : i < n) : (ups lo c n)[i]? = some (lo + (i : Int) * c) := by unfold ups; simp [h]
theorem iter_rng {S : Hp} {lo : Int} {n : Nat} : IterOk K (Itr lo n) S ((ups lo 1 n).map D.int) := by
  refine ⟨fun i H _ h => (show i < n by simpa [ups_len] using h), fun H _ => by simp [ups_len]; exact Nat.le_refl _, fun i Sc H x H' h _ e y => ?_⟩
  obtain ⟨rfl, rfl⟩ := y
  rw [List.length_map, ups_len] at h
  refine ⟨.int (lo + i), Sc, ?_, .refl e, .int _⟩
  rw [List.getElem?_map, ups_get h]
  simp
theorem iter_rngC {S : Hp} {lo c : Int} {n : Nat} : IterOk K (Itc lo c n) S ((ups lo c n).map D.int) := by
  refine ⟨fun i H _ h => (show i < n by simpa [ups_len] using h), fun H _ => by simp [ups_len]; exact Nat.le_refl _, fun i Sc H x H' h _ e y => ?_⟩
  obtain ⟨rfl, rfl⟩ := y
  rw [List.length_map, ups_len] at h
  refine ⟨.int (lo + i * c), Sc, ?_, .refl e, .int _⟩
  rw [List.getElem?_map, ups_get h]
  rfl
def isInts : List D → Option (List Int)
  | [] => some []
  | .int i :: r => (isInts r).map (i :: ·)
  | _ => none
def bi1 (bs : BA) : BI := fun env Q => bs env fun ts => match T.ds ts with
  | [.int n] => -1000000 ≤ n ∧ n ≤ 1000000 ∧ Q ((ups 0 1 n.toNat).map D.int)
  | _ => False
def bi2 (bs : BA) : BI := fun env Q => bs env fun ts => match T.ds ts with
  | [.int m, .int n] => -1000000 ≤ m ∧ m ≤ 1000000 ∧ -1000000 ≤ n ∧ n ≤ 1000000 ∧ Q ((ups m 1 (n - m).toNat).map D.int)
  | _ => False
def bi3 (bs : BA) : BI := fun env Q => bs env fun ts => match T.ds ts with
  | [.int m, .int n, .int c] => ∃ k, RgC m n c k ∧ Q ((ups m c k).map D.int)
  | _ => False
variable {bs : BA} {p : Pos} {c : Expr}
theorem ats3 {S : Hp} {vs : List V} {d e f : D} (h : Ats K S vs [d, e, f]) : ∃ v w u, vs = [v, w, u] ∧ At K S v d ∧ At K S w e ∧ At K S u f := by
  cases h with
  | cons h r =>
    obtain ⟨w, u, rfl, k⟩ := ats2 r
    exact ⟨_, w, u, rfl, h, k⟩
theorem i_rng1 (hm : X.mg "range" = none) (hg : Gl X "range") (ha : PAb X [a] bs) (hs : starEach [a] X.env = [(false, eval a X.env)] := by rfl) : PIb X tg (.Call (.Name "range" p) [a] [] pos) (bi1 bs) :=
  pi_weak (pi_range1 hg hm ha hs) fun σ H R ⟨S, env, Qd, hS, hE, hb, hQ⟩ => by
  refine ⟨S, env, _, hS, hE, hb, fun vs S1 H1 ts O1 q1 => ?_⟩
  obtain ⟨S2, e2, _, a2⟩ := O1.share
  generalize hd : T.ds ts = d at a2 q1
  split at q1
  · obtain ⟨v, rfl, a⟩ := ats1 a2
    cases a
    obtain ⟨h1, h2, q1⟩ := q1
    exact ⟨_, rfl, by omega, by omega, hQ _ S2 _ _ e2 iter_rng q1⟩
  · exact q1.elim
theorem i_rng2 (hm : X.mg "range" = none) (hg : Gl X "range") (ha : PAb X [a, b] bs) (hs : starEach [a, b] X.env = [(false, eval a X.env), (false, eval b X.env)] := by rfl) (hs2 : starEach [b] X.env = [(false, eval b X.env)] := by rfl) : PIb X tg (.Call (.Name "range" p) [a, b] [] pos) (bi2 bs) :=
  pi_weak (pi_range2 hg hm ha hs hs2) fun σ H R ⟨S, env, Qd, hS, hE, hb, hQ⟩ => by
  refine ⟨S, env, _, hS, hE, hb, fun vs S1 H1 ts O1 q1 => ?_⟩
  obtain ⟨S2, e2, _, a2⟩ := O1.share
  generalize hd : T.ds ts = d at a2 q1
  split at q1
  · obtain ⟨v, w, rfl, x, y⟩ := ats2 a2
    cases x; cases y
    obtain ⟨h1, h2, h3, h4, q1⟩ := q1
    exact ⟨_, _, rfl, ⟨by omega, by omega, by omega, by omega⟩, hQ _ S2 _ _ e2 iter_rng q1⟩
  · exact q1.elim
theorem i_rng3 (hm : X.mg "range" = none) (hg : Gl X "range") (ha : PAb X [a, b, c] bs)
    (hs : starEach [a, b, c] X.env = (false, eval a X.env) :: starEach [b, c] X.env := by rfl) (hpl : (backTo pos (starEach [b, c] X.env)).any (·.1) = false := by rfl) : PIb X tg (.Call (.Name "range" p) [a, b, c] [] pos) (bi3 bs) :=
  pi_weak (pi_range3 hg hm ha hs hpl) fun σ H R ⟨S, env, Qd, hS, hE, hb, hQ⟩ => by
  refine ⟨S, env, _, hS, hE, hb, fun vs S1 H1 ts O1 q1 => ?_⟩
  obtain ⟨S2, e2, _, a2⟩ := O1.share
  generalize hd : T.ds ts = d at a2 q1
  split at q1
  · obtain ⟨v, w, u, rfl, x, y, z⟩ := ats3 a2
    cases x; cases y; cases z
    obtain ⟨k, h1, q1⟩ := q1
    exact ⟨_, _, _, k, rfl, h1, hQ _ S2 _ _ e2 iter_rngC q1⟩
  · exact q1.elim
/-- a text, sign by sign -/
def biS (b : BT) : BI := fun env Q => b env fun t => match t.d with
  | .str x => Q (x.cps.toList.map fun c => D.str ⟨#[c]⟩)
  | _ => False
theorem i_str (h : PB X e be) : PIb X tg e (biS be) := pi_weak (pi_str h) fun σ H R ⟨S, env, Qd, hS, hE, hb, hQ⟩ => by
  refine ⟨S, env, _, hS, hE, hb, fun v S1 H1 t1 O1 q1 => ?_⟩
  obtain ⟨S2, e2, _, a2⟩ := O1.share
  generalize hd : t1.d = d at a2 q1
  cases a2 with
  | str x =>
    refine ⟨x, rfl, hQ _ S2 _ _ e2 ⟨fun i H _ h => (show i < x.cps.size by simpa using h), fun H _ => by simp; exact Nat.le_refl _, fun i Sc H x2 H' h _ e y => ?_⟩ q1⟩
    obtain ⟨rfl, cc, h1, rfl⟩ := y
    refine ⟨.str ⟨#[cc]⟩, Sc, ?_, .refl e, .str _⟩
    rw [List.getElem?_map, Array.getElem?_toList, h1]
    rfl
  | _ => exact q1.elim
/-- enumerate(list) -/
def enumF (n : Nat) : List D → List D
  | [] => []
  | d :: ds => .tup [.int n, d] :: enumF (n + 1) ds
def biE (b : BT) : BI := fun env Q => b env fun t => match t.d with
  | .lst ds => Q (enumF 0 ds)
  | _ => False
theorem enumF_len : ∀ (ds : List D) (n : Nat), (enumF n ds).length = ds.length
  | [], _ => rfl
  | _ :: ds, n => by rw [enumF, List.length_cons, List.length_cons, enumF_len ds]
theorem enumF_get : ∀ {ds : List D} {n i : Nat} {d : D}, ds[i]? = some d → (enumF n ds)[i]? = some (.tup [.int ((n + i : Nat) : Int), d])
  | [], _, _, _, h => by simp at h
  | e :: ds, n, 0, d, h => by simp at h; subst h; rfl
  | e :: ds, n, i + 1, d, h => by
    have := enumF_get (n := n + 1) (i := i) (d := d) (by simpa using h)
    rw [enumF, List.getElem?_cons_succ, this]
    congr 5
    omega
theorem iter_pair {S Sc H H' : Hp} {x y : V} {dx dy : D} {q : Addr} (e : Same Sc H) (hq : H q = none) (hx : At K Sc x dx) (hy : At K Sc y dy) (eh : H' = upd H q (.tup [x, y])) : ∃ Sc', Ext Sc H Sc' H' ∧ At K Sc' (.ref q) (.tup [dx, dy]) := by
  subst eh
  have o : Out K Sc H (.ref q) (.sh (.tup [dx, dy])) (upd Sc q (.tup [x, y])) (upd H q (.tup [x, y])) := .tup e hq (.cons hx (.cons hy .nil))
  obtain ⟨S2, e2, _, a2⟩ := o.share
  exact ⟨S2, e2, a2⟩
theorem i_enum {elts : List Expr} {kk : Nat} {tpos : Pos} (hm : X.mg "enumerate" = none) (hg : Gl X "enumerate") (ha : PB X e be) (hs : starEach [e] X.env = [(false, eval e X.env)] := by rfl) (hs2 : starEach [e] X.env = (false, eval e X.env) :: starEach [] X.env := by rfl) :
    PIb X (.Tuple elts kk tpos) (.Call (.Name "enumerate" p) [e] [] pos) (biE be) := pi_weak (pi_enum hg hm (pa_cons ha pa_nil hs2) hs) fun σ H R ⟨S, env, Qd, hS, hE, hb, hQ⟩ => by
  refine ⟨S, env, _, hS, hE, hb, fun v S1 H1 t1 O1 q1 => ?_⟩
  obtain ⟨S2, e2, _, a2⟩ := O1.share
  generalize hd : t1.d = d at a2 q1
  cases a2 with
  | @lst p xs ds hp ha =>
    have hl := ha.length
    refine ⟨p, xs, rfl, .inl (.inl (e2.le _ _ hp)), hQ _ S2 _ _ e2 ⟨fun i H k h => ?_, fun H k => ?_, fun i Sc H x H' h e1 e3 y => ?_⟩ q1⟩
    · rw [enumF_len] at h
      exact ⟨xs, xs[i]'(by omega), .inl (.inl (k _ _ hp)), by simp [show i < xs.length by omega]⟩
    · rw [enumF_len]
      exact ⟨xs, .inl (.inl (k _ _ hp)), by omega⟩
    · obtain ⟨q, x1, rfl, hq, eh, hx⟩ := y
      have hx := hx xs (.inl (.inl ((e1.trans e3) _ _ hp)))
      obtain ⟨d1, h1, h2⟩ := ha.getV hx
      obtain ⟨Sc', e4, a4⟩ := iter_pair (S := S) e3 hq (.int (i : Nat)) (h2.mono e1) eh
      refine ⟨_, Sc', enumF_get h1, e4, ?_⟩
      rw [Nat.zero_add]
      exact a4
  | _ => exact q1.elim
def biZ (bs : BA) : BI := fun env Q => bs env fun ts => match T.ds ts with
  | [.lst ds, .lst es] => Q (List.zipWith (fun d e => D.tup [d, e]) ds es)
  | [.tup ds, .tup es] => Q (List.zipWith (fun d e => D.tup [d, e]) ds es)
  | _ => False
theorem i_zip {e2 : Expr} {elts : List Expr} {kk : Nat} {tpos : Pos} (hm : X.mg "zip" = none) (hg : Gl X "zip") (ha : PAb X [e, e2] bs)
    (hs : starEach [e, e2] X.env = (false, eval e X.env) :: starEach [e2] X.env := by rfl) (hpl : (backTo pos (starEach [e2] X.env)).any (·.1) = false := by rfl) :
    PIb X (.Tuple elts kk tpos) (.Call (.Name "zip" p) [e, e2] [] pos) (biZ bs) := pi_weak (RZ.pi_zipA hg hm ha hs hpl) fun σ H R ⟨S, env, Qd, hS, hE, hb, hQ⟩ => by
  refine ⟨S, env, _, hS, hE, hb, fun vs S1 H1 ts O1 q1 => ?_⟩
  obtain ⟨S2, e2, _, a2⟩ := O1.share
  generalize hd : T.ds ts = d at a2 q1
  split at q1
  · obtain ⟨v, w, rfl, x, y⟩ := ats2 a2
    cases x with
    | @lst p1 xs ds hp ha =>
      cases y with
      | @lst p2 ys es hp2 ha2 =>
        have l1 := ha.length
        have l2 := ha2.length
        refine ⟨p1, p2, xs, ys, rfl, .inl ⟨.inl (.inl (e2.le _ _ hp)), .inl (.inl (e2.le _ _ hp2)), hQ _ S2 _ _ e2 ⟨fun i H k h => ?_, fun H k => ?_, fun i Sc H x H' h e1 e3 y => ?_⟩ q1⟩⟩
        · rw [List.length_zipWith] at h
          exact ⟨xs, ys, xs[i]'(by omega), ys[i]'(by omega), .inl (.inl (k _ _ hp)), .inl (.inl (k _ _ hp2)), by simp [show i < xs.length by omega], by simp [show i < ys.length by omega]⟩
        · rw [List.length_zipWith]
          exact ⟨xs, ys, .inl (.inl (k _ _ hp)), .inl (.inl (k _ _ hp2)), by omega⟩
        · obtain ⟨q, x1, y1, rfl, hq, eh, hx, hy⟩ := y
          have hx := hx xs (.inl (.inl ((e1.trans e3) _ _ hp)))
          have hy := hy ys (.inl (.inl ((e1.trans e3) _ _ hp2)))
          obtain ⟨d1, h1, h2⟩ := ha.getV hx
          obtain ⟨d2, h3, h4⟩ := ha2.getV hy
          obtain ⟨Sc', e4, a4⟩ := iter_pair (S := S) e3 hq (h2.mono e1) (h4.mono e1) eh
          refine ⟨_, Sc', ?_, e4, a4⟩
          rw [List.getElem?_zipWith, h1, h3]
  · obtain ⟨v, w, rfl, x, y⟩ := ats2 a2
    cases x with
    | @tup p1 xs ds hp ha =>
      cases y with
      | @tup p2 ys es hp2 ha2 =>
        have l1 := ha.length
        have l2 := ha2.length
        refine ⟨p1, p2, xs, ys, rfl, .inr ⟨same_t e2.le hp, same_t e2.le hp2, hQ _ S2 _ _ e2 ⟨fun i H k h => ?_, fun H k => ?_, fun i Sc H x H' h e1 e3 y => ?_⟩ q1⟩⟩
        · rw [List.length_zipWith] at h
          exact ⟨xs, ys, xs[i]'(by omega), ys[i]'(by omega), same_t k hp, same_t k hp2, by simp [show i < xs.length by omega], by simp [show i < ys.length by omega]⟩
        · rw [List.length_zipWith]
          exact ⟨xs, ys, same_t k hp, same_t k hp2, by omega⟩
        · obtain ⟨q, x1, y1, rfl, hq, eh, hx, hy⟩ := y
          have hx := hx xs (same_t (e1.trans e3) hp)
          have hy := hy ys (same_t (e1.trans e3) hp2)
          obtain ⟨d1, h1, h2⟩ := ha.getV hx
          obtain ⟨d2, h3, h4⟩ := ha2.getV hy
          obtain ⟨Sc', e4, a4⟩ := iter_pair (S := S) e3 hq (h2.mono e1) (h4.mono e1) eh
          refine ⟨_, Sc', ?_, e4, a4⟩
          rw [List.getElem?_zipWith, h1, h3]
  · exact q1.elim

/-! ### targets that are names -/
inductive Tg where
  | n (j : Nat) | t (js : List Nat)
def Tg.js : Tg → List Nat
  | .n j => [j]
  | .t js => js
def sets (env : List (Option T)) : List Nat → List T → List (Option T)
  | j :: js, t :: ts => sets (env.set j (some t)) js ts
  | _, _ => env
def Tg.put : Tg → T → List (Option T) → Option (List (Option T))
  | .n j, u, env => some (env.set j (some u))
  | .t js, .sh (.tup ds), env => if js.length = ds.length then some (sets env js (ds.map T.sh)) else none
  | .t js, .tp ts, env => if js.length = ts.length then some (sets env js ts) else none
  | _, _, _ => none
def gNs : List Nat → TGs
  | [] => gNil
  | j :: js => gCons (gName j) (gNs js)
def Tg.g (K : PySem.W.Frag) : Tg → TG
  | .n j => gName j
  | .t js => gTup K js.length (gNs js)
theorem wipe_get (σ : L2.St) (i : Nat) : ∀ vs : List Nat, (wipe σ vs)[i]? = if i ∈ vs then (if i < σ.length then some none else none) else σ[i]?
  | [] => by simp [wipe]
  | v :: vs => by
    have ih := wipe_get σ i vs
    unfold wipe
    rw [List.getElem?_set, wipe_length]
    by_cases h : v = i
    · subst h
      simp
    · rw [if_neg h, ih]
      have h' : i ≠ v := fun z => h z.symm
      simp [h']
theorem wipe_set {σ : L2.St} {j : Nat} {o : Option V} {vs : List Nat} (h : j ∈ vs) : wipe (σ.set j o) vs = wipe σ vs := by
  apply List.ext_getElem?
  intro i
  rw [wipe_get, wipe_get, List.length_set]
  by_cases hi : i ∈ vs
  · rw [if_pos hi, if_pos hi]
  · rw [if_neg hi, if_neg hi, List.getElem?_set_ne (fun z => hi (by rw [← z]; exact h))]
theorem wipe_wipe (σ : L2.St) (vs : List Nat) : wipe (wipe σ vs) vs = wipe σ vs := by
  apply List.ext_getElem?
  intro i
  rw [wipe_get, wipe_get, wipe_length]
  split <;> rfl
theorem nth_set : ∀ (env : List (Option T)) (i j : Nat) (o : Option T), nth (env.set j o) i = if i = j ∧ j < env.length then o else nth env i
  | [], i, j, o => by simp [nth]
  | x :: l, 0, 0, o => by simp [nth]
  | x :: l, 0, j + 1, o => by simp [nth]
  | x :: l, i + 1, 0, o => by simp [nth]
  | x :: l, i + 1, j + 1, o => by
    rw [List.set_cons_succ, nth, nth, nth_set l i j o]
    simp
theorem EnvS.set {S : Hp} {σ : L2.St} {env : List (Option T)} (h : EnvS K S σ env) {j : Nat} {v : V} {t : T} (a : At K S v t.d) : EnvS K S (σ.set j (some v)) (env.set j (some t)) := by
  refine ⟨by rw [List.length_set, List.length_set, h.1], fun i u hu => ?_⟩
  rw [nth_set] at hu
  split at hu
  · rename_i hij
    obtain ⟨rfl, hl⟩ := hij
    cases hu
    exact ⟨v, List.getElem?_set_self (by rw [h.1]; exact hl), a⟩
  · rename_i hij
    obtain ⟨w, h1, h2⟩ := h.2 i u hu
    refine ⟨w, ?_, h2⟩
    by_cases e : j = i
    · subst e
      have : ¬ j < env.length := fun z => hij ⟨rfl, z⟩
      have hlt := (List.getElem?_eq_some_iff.mp h1).1
      have hh := h.1
      omega
    · rw [List.getElem?_set_ne e]
      exact h1
theorem gNs_ok {S H : Hp} {vs0 : List Nat} {Q : L2.St → Hp → Prop} : ∀ {js : List Nat} {ts : List T} {vs : List V} {σ : L2.St} {env : List (Option T)}, EnvS K S σ env → Ats K S vs (T.ds ts) → js.length = ts.length → (∀ j ∈ js, j ∈ vs0) →
    (∀ σ', EnvS K S σ' (sets env js ts) → wipe σ' vs0 = wipe σ vs0 → Q σ' H) → gNs js vs σ H Q
  | [], [], _, σ, env, hE, a, _, _, k => by
    cases a
    exact ⟨rfl, k σ hE rfl⟩
  | [], _ :: _, _, _, _, _, _, h, _, _ => by cases h
  | _ :: _, [], _, _, _, _, _, h, _, _ => by cases h
  | j :: js, t :: ts, _, σ, env, hE, a, hl, hj, k => by
    cases a with
    | @cons v _ vs _ h a =>
      refine ⟨v, vs, rfl, ?_⟩
      refine gNs_ok (hE.set h) a (by simpa using hl) (fun i hi => hj i (List.mem_cons_of_mem _ hi)) fun σ' h1 h2 => k σ' h1 ?_
      rw [h2, wipe_set (hj j (by simp))]
theorem ds_sh (ds : List D) : T.ds (ds.map T.sh) = ds := by
  induction ds with
  | nil => rfl
  | cons d ds ih => rw [List.map_cons, T.ds, ih]; rfl
/-- a shared thing stored into names -/
theorem tg_ok {S H : Hp} {vs0 : List Nat} {tg : Tg} {v : V} {d : D} {σ : L2.St} {env env1 : List (Option T)} {Q : L2.St → Hp → Prop} (hS : Same S H) (hE : EnvS K S σ env) (a : At K S v d) (hp : tg.put (.sh d) env = some env1) (hj : ∀ j ∈ tg.js, j ∈ vs0)
    (k : ∀ σ', EnvS K S σ' env1 → wipe σ' vs0 = wipe σ vs0 → Q σ' H) : tg.g K v σ H Q := by
  cases tg with
  | n j =>
    cases hp
    exact k _ (hE.set a) (wipe_set (hj j (by simp [Tg.js])))
  | t js =>
    cases a with
    | @tup p xs ds hx ha =>
      have hp : (if js.length = ds.length then some (sets env js (ds.map T.sh)) else none) = some env1 := hp
      split at hp
      · cases hp
        rename_i hl
        exact ⟨p, xs, rfl, same_t hS hx, by rw [ha.length, hl], gNs_ok hE (by rw [ds_sh]; exact ha) (by rw [List.length_map]; exact hl) hj k⟩
      · cases hp
    | _ => cases hp
theorem t_n {i : Nat} {x : Str} (hN : X.N.Nodup) (hi : X.N[i]? = some x) (hx : Loc X.env.scope x) (hf : X.fn x = true ∨ X.env.scope.names.lookup x = some .local := by first | exact .inl rfl | exact .inr rfl | assumption) : PG X (.Name x pos) (Tg.g X.K (.n i)) := pg_name hN hi hx hf
theorem t_t {es : List Expr} {k : Nat} {js : List Nat} (hc : X.calm = true) (h : PGs X es (gNs js)) (hn : (assignEach es X.env).length = js.length := by rfl) (hst : (assignEach es X.env).findIdx? (·.1) = none := by rfl) :
    PG X (.Tuple es k pos) (Tg.g X.K (.t js)) := pg_tup hc h hn hst

/-! ### comprehensions -/
def wipeE (env : List (Option T)) : List Nat → List (Option T)
  | [] => env
  | v :: vs => (wipeE env vs).set v none
theorem EnvS.none {S : Hp} {σ : L2.St} {env : List (Option T)} (h : EnvS K S σ env) (j : Nat) : EnvS K S (σ.set j none) (env.set j none) := by
  refine ⟨by rw [List.length_set, List.length_set, h.1], fun i u hu => ?_⟩
  rw [nth_set] at hu
  split at hu
  · cases hu
  · rename_i hij
    obtain ⟨w, h1, h2⟩ := h.2 i u hu
    refine ⟨w, ?_, h2⟩
    by_cases e : j = i
    · subst e
      have : ¬ j < env.length := fun z => hij ⟨rfl, z⟩
      have hlt := (List.getElem?_eq_some_iff.mp h1).1
      rw [h.1] at hlt
      omega
    · rw [List.getElem?_set_ne e]
      exact h1
theorem EnvS.wiped {S : Hp} {σ : L2.St} {env : List (Option T)} (h : EnvS K S σ env) : ∀ vs : List Nat, EnvS K S (wipe σ vs) (wipeE env vs)
  | [] => h
  | v :: vs => (EnvS.wiped h vs).none v
def bLc (bi : BI) (tg : Tg) (bt : BTT) (be : BT) (vs : List Nat) : BT := fun env Q => bi env fun items => items.length ≤ 50000 ∧ ∃ (α : Type) (xs : List α) (f : α → D) (r : α → Option D), items = xs.map f ∧
  (∀ x ∈ xs, ∃ env1, tg.put (.sh (f x)) (wipeE env vs) = some env1 ∧ bt env1 fun c => (c = true → be env1 fun t => r x = some t.d) ∧ (c = false → r x = none)) ∧ Q (.ow (xs.filterMap r))
theorem lc_ref {bi : BI} {tg : Tg} {bt : BTT} {be : BT} {vs : List Nat} (hj : ∀ j ∈ tg.js, j ∈ vs) {σ : L2.St} {H : Hp} {Q : VK} (h : eOf K (bLc bi tg bt be vs) σ H Q) : tLc (iOf K bi) (tg.g K) (tOf K bt) (eOf K be) vs σ H Q := by
  obtain ⟨S, env, Qd, hS, hE, hb, hQ⟩ := h
  refine ⟨S, env, _, hS, hE, hb, fun J S1 H1 items e1 io ⟨hn, α, xs, f, r, hx, ht, hq⟩ D hD => ?_⟩
  subst hx
  have hlen : (xs.map f).length = xs.length := List.length_map ..
  rw [hlen] at hn
  refine ⟨fun i m Hc => m = xs.length - i ∧ i ≤ xs.length ∧ ∃ Sc acc, Ext S1 H1 Sc Hc ∧ Sc D = none ∧ Hc D = some (.lst acc) ∧ Ats K Sc acc ((xs.take i).filterMap r),
    ⟨xs.length, by simp, Nat.zero_le _, S1, [], ⟨.refl _, same_new hD, e1.le.trans (same_new hD), fun _ _ _ => rfl⟩, Same.none e1.le hD, upd_same, .nil⟩, ?_⟩
  rintro i m Hc ⟨rfl, hi, Sc, acc, ec, hSD, hHD, ha⟩
  by_cases hlt : i < xs.length
  · refine .inr ⟨io.1 i Hc (ec.s.trans ec.le) (by omega), fun H' => i + 1 ≤ xs.length ∧ ∃ Sc acc, Ext S1 H1 Sc H' ∧ Sc D = none ∧ H' D = some (.lst acc) ∧ Ats K Sc acc ((xs.take (i + 1)).filterMap r),
      fun H' h => ⟨xs.length - (i + 1), by omega, rfl, h.1, h.2⟩, fun x H' y => ?_⟩
    obtain ⟨d, S2, hd, e2, a2⟩ := io.2.2 i Sc Hc x H' (by omega) ec.s ec.le y
    have hxi : xs[i]? = some xs[i] := by simp [hlt]
    rw [List.getElem?_map, hxi] at hd
    cases hd
    obtain ⟨env1, hp, hb1⟩ := ht xs[i] (List.getElem_mem hlt)
    have etot := e1.trans (ec.trans e2)
    refine tg_ok (vs0 := vs) e2.le ((hE.mono etot.s).wiped vs) a2 hp hj fun σ' hE' hw => ⟨by rw [hw, wipe_wipe], ?_⟩
    refine ⟨S2, env1, _, e2.le, hE', hb1, fun c S3 H3 e3 ⟨q1, q2⟩ => ?_⟩
    have tk : (xs.take (i + 1)).filterMap r = (xs.take i).filterMap r ++ (match r xs[i] with | some z => [z] | none => []) := by
      rw [List.take_add_one, hxi, List.filterMap_append]
      show _ ++ List.filterMap r [xs[i]] = _
      cases hh : r xs[i] <;> simp [hh]
    cases c with
    | true =>
      refine iteT ?_
      refine ⟨S3, env1, _, e3.le, hE'.mono e3.s, q1 rfl, fun u S4 H4 t4 O4 hr => ?_⟩
      obtain ⟨S5, e5, _, a5⟩ := O4.share
      have ett := (e2.trans e3).trans e5
      have hD5 : S5 D = none := (ett.dom D (.lst _) hHD).trans hSD
      refine ⟨acc, ett.h D _ hHD, Nat.lt_of_le_of_lt (m := 50000) ?_ (by decide), hlt, S5, acc ++ [u], ⟨ec.s.trans ett.s, fun a o h => ?_, fun a o h => ?_, fun a o h => (ett.dom a o (ec.h a _ h)).trans (ec.dom a o h)⟩, hD5, upd_same, ?_⟩
      · rw [ha.length]
        have h1 := List.length_filterMap_le r (xs.take i)
        have h2 := List.length_take_le i xs
        omega
      · rw [upd_ne (ne_of_none h hD)]
        exact ett.h a o (ec.h a o h)
      · rw [upd_ne (ne_of_none h hD5)]
        exact ett.le a o h
      · rw [tk, hr]
        exact (ha.mono ett.s).append (.cons a5 .nil)
    | false =>
      refine iteF ?_
      have hr := q2 rfl
      have ett := e2.trans e3
      refine ⟨hlt, S3, acc, ec.trans ett, (ett.dom D (.lst _) hHD).trans hSD, ett.h D _ hHD, ?_⟩
      rw [tk, hr, List.append_nil]
      exact ha.mono ett.s
  · have e : i = xs.length := by omega
    subst e
    rw [List.take_length] at ha
    refine .inl ⟨by have := io.2.1 Hc (ec.s.trans ec.le); rwa [hlen] at this, hQ _ Sc Hc _ ⟨e1.trans ec, [D], .ow hHD ha, frs_one (Same.none e1.h hD) hSD⟩ hq⟩
theorem b_lc {bi : BI} {tge elt iter : Expr} {ifs : List Expr} {scope : Scope} {own : List (Str × Nat)} {tg : Tg} {bt : BTT} {be : BT} (hc : X.calm = true) (hN : X.N.Nodup) (hi : PIb X tge iter bi) (ok : BlkOk X.N X.env.scope scope own)
    (hg : ∀ (s : Shared) (H : Hp) (C : Addr) (cl : List (Str × Addr)) (fp : List Addr), PG (X.blk s H scope (compEnvC scope cl C X.env) fp) tge (tg.g X.K)) (ht : ∀ (s : Shared) (H : Hp) (C : Addr) (cl : List (Str × Addr)) (fp : List Addr), PTs (X.blk s H scope (compEnvC scope cl C X.env) fp) ifs (tOf X.K bt))
    (he : ∀ (s : Shared) (H : Hp) (C : Addr) (cl : List (Str × Addr)) (fp : List Addr), PE (X.blk s H scope (compEnvC scope cl C X.env) fp) elt (eOf X.K be)) (hs : ∀ x, foldedSetIterable iter X.env x = pure x := by intro _; rfl) (hj : ∀ j ∈ tg.js, j ∈ own.map (·.2) := by decide) :
    PB X (.ListComp elt [⟨tge, iter, ifs, 0⟩] scope pos) (bLc bi tg bt be (own.map (·.2))) := pe_weak (pe_lc hc hN hi ok hg ht he hs) fun σ H Q h => lc_ref hj h
theorem l_nil : PTs X [] (tOf X.K qYes) := ⟨fun p s σ H Q I h => pts_nil.run p s σ H Q I (by
  obtain ⟨S, env, Qd, hS, hE, hb, hQ⟩ := h
  exact hQ true S H (.refl hS) hb)⟩
theorem l_one {c : Expr} {q : BTT} (h : PQ X c q) : PTs X [c] (tOf X.K q) := pts_one h
end
end W

/-! FE: statements over data; lists that are ours may change. -/
namespace W
open PySem L2

structure Own (K : PySem.W.Frag) (S0 H0 S H : Hp) (σ : L2.St) (env : List (Option T)) (Lf : Nat → List Addr) : Prop where
  ext : Ext S0 H0 S H
  len : σ.length = env.length
  slot : ∀ i t, nth env i = some t → ∃ v, σ[i]? = some (some v) ∧ Res K S H v t (Lf i)
  nod : ∀ i, (Lf i).Nodup
  dis : ∀ i j a, a ∈ Lf i → a ∈ Lf j → i = j
  fr : ∀ i a, a ∈ Lf i → H0 a = none ∧ S a = none ∧ ∃ xs : OM, H a = some xs.ho
def Pend (L : List Addr) (Lf : Nat → List Addr) (H0 S H : Hp) : Prop := L.Nodup ∧ ∀ a ∈ L, (∀ i, a ∉ Lf i) ∧ H0 a = none ∧ S a = none ∧ ∃ xs : OM, H a = some xs.ho
def Keep (Lf Lf' : Nat → List Addr) (L : List Addr) (S H S' H' : Hp) : Prop := ∀ a (o : OM), H a = some o.ho → (∀ i, a ∉ Lf i) → H' a = some o.ho ∧ S' a = S a ∧ a ∉ L ∧ ∀ i, a ∉ Lf' i
/-- what is known of dicts whose webs are ours -/
def hdM : List T → Option (List D)
  | [] => some []
  | .md _ n _ :: ts => (hdM ts).map (.mdn n :: ·)
  | _ :: _ => none
def hideO : Option T → Option T
  | some (.sh d) => some (.sh d)
  | some (.ml ts) => (hdM ts).map fun ds => .sh (.lst ds)
  | _ => none
def hide : List (Option T) → List (Option T)
  | [] => []
  | o :: r => hideO o :: hide r
theorem nth_hide : ∀ (env : List (Option T)) (i : Nat), nth (hide env) i = hideO (nth env i)
  | [], _ => rfl
  | _ :: _, 0 => rfl
  | _ :: l, i + 1 => nth_hide l i
theorem hide_len : ∀ (env : List (Option T)), (hide env).length = env.length
  | [] => rfl
  | _ :: l => by rw [hide, List.length_cons, List.length_cons, hide_len l]
theorem hdM_at {K : PySem.W.Frag} {S H : Hp} : ∀ {ts : List T} {vs : List V} {L : List Addr} {ds : List D}, Ress K S H vs ts L → hdM ts = some ds → Ats K S vs ds
  | [], _, _, _, .nil, e => by cases e; exact .nil
  | t :: ts, _, _, _, .cons h r, e => by
    cases t with
    | md a n w =>
      obtain ⟨es, e1, e2⟩ := Option.map_eq_some_iff.mp (show (hdM ts).map (D.mdn n :: ·) = some _ from e)
      subst e2
      cases h with
      | md g1 g2 g3 => exact .cons (.mdn g1) (hdM_at r e1)
    | _ => cases e
theorem hideO_sh_of {o : Option T} {t : T} (h : hideO o = some t) : ∃ d, t = .sh d := by
  cases o with
  | none => cases h
  | some u => cases u with
    | sh d => cases h; exact ⟨d, rfl⟩
    | ml ts =>
      obtain ⟨es, e1, e2⟩ := Option.map_eq_some_iff.mp (show (hdM ts).map (fun ds => T.sh (.lst ds)) = some t from h)
      exact ⟨_, e2.symm⟩
    | _ => cases h
theorem hideO_some {K : PySem.W.Frag} {S H : Hp} {v : V} {L : List Addr} {u t : T} (h : hideO (some u) = some t) (r : Res K S H v u L) : ∃ d, t = .sh d ∧ At K S v d := by
  cases u with
  | sh d => cases h; cases r with | sh a => exact ⟨d, rfl, a⟩
  | ml ts =>
    obtain ⟨es, e1, e2⟩ := Option.map_eq_some_iff.mp (show (hdM ts).map (fun ds => T.sh (.lst ds)) = some t from h)
    cases r with
    | ml g1 g2 => exact ⟨_, e2.symm, .lst g1 (hdM_at g2 e1)⟩
  | _ => cases h
section
variable {K : PySem.W.Frag} {S0 H0 S H S' H' : Hp} {σ : L2.St} {env : List (Option T)} {Lf : Nat → List Addr}
theorem Own.keepA (o : Own K S0 H0 S H σ env Lf) {i : Nat} {a : Addr} (h : a ∈ Lf i) (e : Same H H') : H' a = H a := by
  obtain ⟨_, _, xs, q⟩ := o.fr i a h
  rw [q]
  exact e a _ q
theorem Own.grow (o : Own K S0 H0 S H σ env Lf) (e : Ext S H S' H') : Own K S0 H0 S' H' σ env Lf where
  ext := o.ext.trans e
  len := o.len
  slot := fun i t h => by
    obtain ⟨v, h1, h2⟩ := o.slot i t h
    exact ⟨v, h1, h2.mono e.s fun a m => o.keepA m e.h⟩
  nod := o.nod
  dis := o.dis
  fr := fun i a m => by
    obtain ⟨h1, h2, xs, q⟩ := o.fr i a m
    exact ⟨h1, (e.dom a _ q).trans h2, xs, e.h a _ q⟩
theorem Own.hid (o : Own K S0 H0 S H σ env Lf) : EnvS K S σ (hide env) := ⟨by rw [hide_len]; exact o.len, fun i t h => by
  rw [nth_hide] at h
  cases h9 : nth env i with
  | none => rw [h9] at h; cases h
  | some u =>
    rw [h9] at h
    obtain ⟨v, h1, h2⟩ := o.slot i _ h9
    obtain ⟨d, rfl, a⟩ := hideO_some h h2
    exact ⟨v, h1, a⟩⟩
open Classical in
/-- all that is ours, lent -/
noncomputable def lent (S H : Hp) (Lf : Nat → List Addr) : Hp := fun a => if ∃ i, a ∈ Lf i then H a else S a
open Classical in
noncomputable def unlent (S : Hp) (Lf : Nat → List Addr) : Hp := fun a => if ∃ i, a ∈ Lf i then none else S a
theorem lent_in {i : Nat} {a : Addr} (h : a ∈ Lf i) : lent S H Lf a = H a := by unfold lent; exact if_pos ⟨i, h⟩
theorem lent_out {a : Addr} (h : ¬ ∃ i, a ∈ Lf i) : lent S H Lf a = S a := by unfold lent; exact if_neg h
theorem unlent_in {i : Nat} {a : Addr} (h : a ∈ Lf i) : unlent S Lf a = none := by unfold unlent; exact if_pos ⟨i, h⟩
theorem unlent_out {a : Addr} (h : ¬ ∃ i, a ∈ Lf i) : unlent S Lf a = S a := by unfold unlent; exact if_neg h
theorem Own.lentS (o : Own K S0 H0 S H σ env Lf) : Same S (lent S H Lf) := fun a u h => by
  by_cases m : ∃ i, a ∈ Lf i
  · obtain ⟨i, m⟩ := m
    rw [(o.fr i a m).2.1] at h; cases h
  · rw [lent_out m]; exact h
theorem Own.lentH (o : Own K S0 H0 S H σ env Lf) : Same (lent S H Lf) H := fun a u h => by
  by_cases m : ∃ i, a ∈ Lf i
  · obtain ⟨i, m⟩ := m
    rw [lent_in m] at h; exact h
  · rw [lent_out m] at h; exact o.ext.le a u h
theorem Own.lendE (o : Own K S0 H0 S H σ env Lf) : EnvS K (lent S H Lf) σ env := ⟨o.len, fun i t h => by
  obtain ⟨v, h1, h2⟩ := o.slot i t h
  exact ⟨v, h1, h2.share o.lentS fun a m => lent_in m⟩⟩
/-- behind an evaluation over what was lent -/
theorem Own.back (o : Own K S0 H0 S H σ env Lf) (e : Ext (lent S H Lf) H S' H') : Ext S H (unlent S' Lf) H' where
  s := fun a u h => by
    by_cases m : ∃ i, a ∈ Lf i
    · obtain ⟨i, m⟩ := m
      rw [(o.fr i a m).2.1] at h; cases h
    · rw [unlent_out m]
      refine e.s a u ?_
      rw [lent_out m]; exact h
  h := e.h
  le := fun a u h => by
    by_cases m : ∃ i, a ∈ Lf i
    · obtain ⟨i, m⟩ := m
      rw [unlent_in m] at h; cases h
    · rw [unlent_out m] at h
      exact e.le a u h
  dom := fun a u h => by
    by_cases m : ∃ i, a ∈ Lf i
    · obtain ⟨i, m⟩ := m
      rw [unlent_in m, (o.fr i a m).2.1]
    · rw [unlent_out m, e.dom a u h, lent_out m]
end

/-! ### without lists within -/
mutual
def D.clean : D → Bool
  | .non => true
  | .bl _ => true
  | .int _ => true
  | .str _ => true
  | .tup ds => D.cleans ds
  | .exc _ _ => true
  | _ => false
def D.cleans : List D → Bool
  | [] => true
  | d :: ds => d.clean && D.cleans ds
end
mutual
def T.clean : T → Bool
  | .sh d => d.clean
  | .ow ds => D.cleans ds
  | .tp ts => T.cleans ts
  | .ows ts => T.cleans ts
  | .bn _ _ _ _ => false
  | .dt _ => true
  | .md _ _ _ => false
  | .ol _ _ => false
  | .ml _ => false
def T.cleans : List T → Bool
  | [] => true
  | t :: ts => t.clean && T.cleans ts
end
section
variable {K : PySem.W.Frag} {S S' H : Hp}
theorem sqt_lose {p : Addr} {xs : List V} (k : ∀ a, S' a = S a ∨ ∃ ys : OM, S a = some ys.ho) (h : SqT K S p xs) : SqT K S' p xs := by
  rcases h with (h | ⟨o, h⟩) | h
  · rcases k p with e | ⟨ys, e⟩
    · exact .inl (.inl (e.trans h))
    · rw [e] at h; cases ys <;> cases h
  · rcases k p with e | ⟨ys, e⟩
    · exact .inl (.inr ⟨o, e.trans h⟩)
    · rw [e] at h; cases ys <;> cases h
  · exact .inr h
theorem ext_lose {a d : Addr} {c : Value} {p : Option Addr} (k : ∀ a, S' a = S a ∨ ∃ ys : OM, S a = some ys.ho) (h : S a = some (ExV c p d)) : S' a = some (ExV c p d) := by
  rcases k a with e | ⟨ys, e⟩
  · exact e.trans h
  · rw [e] at h; cases ys <;> cases h
theorem xd_lose {a : Addr} {fs : List (Str × V)} (k : ∀ a, S' a = S a ∨ ∃ ys : OM, S a = some ys.ho) (h : S a = some (.xd fs)) : S' a = some (.xd fs) := by
  rcases k a with e | ⟨ys, e⟩
  · exact e.trans h
  · rw [e] at h; cases ys <;> cases h
theorem PlaceAt.lose {d : Option Addr} (k : ∀ a, S' a = S a ∨ ∃ ys : OM, S a = some ys.ho) : ∀ {p : Option (Option Int)}, PlaceAt S d p → PlaceAt S' d p
  | none, h => h
  | some none, ⟨dd, h1, h2⟩ => ⟨dd, h1, xd_lose k h2⟩
  | some (some _), ⟨dd, h1, h2⟩ => ⟨dd, h1, xd_lose k h2⟩
mutual
theorem At.lose (k : ∀ a, S' a = S a ∨ ∃ ys : OM, S a = some ys.ho) : ∀ {d : D} {v : V}, At K S v d → d.clean = true → At K S' v d
  | _, _, .non, _ => .non
  | _, _, .bl b, _ => .bl b
  | _, _, .int i, _ => .int i
  | _, _, .str x, _ => .str x
  | _, _, .lst _ _, c => nomatch c
  | _, _, .flst _ _, c => nomatch c
  | _, _, .tup h a, c => .tup (sqt_lose k h) (Ats.lose k a c)
  | _, _, .abs _, c => nomatch c
  | _, _, .bn _ _ _ _ _, c => nomatch c
  | _, _, .dt _, c => nomatch c
  | _, _, .exc h q, _ => .exc (ext_lose k h) (PlaceAt.lose k q)
  | _, _, .md _ _ _, c => nomatch c
  | _, _, .mdn _, c => nomatch c
theorem Ats.lose (k : ∀ a, S' a = S a ∨ ∃ ys : OM, S a = some ys.ho) : ∀ {ds : List D} {vs : List V}, Ats K S vs ds → D.cleans ds = true → Ats K S' vs ds
  | _, _, .nil, _ => .nil
  | _, _, .cons h a, c => by
    rw [D.cleans, Bool.and_eq_true] at c
    exact .cons (At.lose k h c.1) (Ats.lose k a c.2)
end
mutual
theorem Res.lose (k : ∀ a, S' a = S a ∨ ∃ ys : OM, S a = some ys.ho) : ∀ {t : T} {v : V} {L : List Addr}, Res K S H v t L → t.clean = true → Res K S' H v t L
  | _, _, _, .sh a, c => .sh (a.lose k c)
  | _, _, _, .ow h a, c => .ow h (a.lose k c)
  | _, _, _, .tp h a, c => .tp (sqt_lose k h) (Ress.lose k a c)
  | _, _, _, .ows h a, c => .ows h (Ress.lose k a c)
  | _, _, _, .bn _ _ _ _ _ _, c => nomatch c
  | _, _, _, .dt h, _ => .dt h
theorem Ress.lose (k : ∀ a, S' a = S a ∨ ∃ ys : OM, S a = some ys.ho) : ∀ {ts : List T} {vs : List V} {L : List Addr}, Ress K S H vs ts L → T.cleans ts = true → Ress K S' H vs ts L
  | _, _, _, .nil, _ => .nil
  | _, _, _, .cons h a, c => by
    rw [T.cleans, Bool.and_eq_true] at c
    exact .cons (Res.lose k h c.1) (Ress.lose k a c.2)
end
end

/-! ### expressions that may take what is ours -/
abbrev BM := List (Option T) → (T → List (Option T) → Prop) → Prop
def mOf (K : PySem.W.Frag) (b : BM) : TE := fun σ H Q => ∃ (S0 H0 S : Hp) (env : List (Option T)) (Lf : Nat → List Addr) (Qd : T → List (Option T) → Prop), Own K S0 H0 S H σ env Lf ∧ b env Qd ∧
  ∀ v S' H' t L env' Lf', Same S S' → Own K S0 H0 S' H' σ env' Lf' → Res K S' H' v t L → Pend L Lf' H0 S' H' → Keep Lf Lf' L S H S' H' → Qd t env' → Q v H'
abbrev PM (X : Cx) (e : Expr) (b : BM) : Prop := PE X e (mOf X.K b)
def mN (b : BT) : BM := fun env Q => b (hide env) fun t => Q t env
def mA (b : BT) : BM := fun env Q => b env fun t => t.clean = true ∧ Q t env
def mV (i : Nat) : BM := fun env Q => match nth env i with
  | some t => Q t (env.set i none)
  | none => False
section
variable {X : Cx} {K : PySem.W.Frag} {a b c e : Expr} {es : List Expr} {be : BT} {bm : BM} {pos : Pos} {S0 H0 S H S' H' : Hp} {σ : L2.St} {env : List (Option T)} {Lf : Nat → List Addr} {v : V} {t : T} {L : List Addr}
theorem Own.pend (o : Own K S0 H0 S H σ env Lf) (r : Res K S' H' v t L) (f : Frs H S' L) : Pend L Lf H0 S' H' := by
  refine ⟨f.1, fun a m => ⟨fun i h => ?_, Same.none o.ext.h (f.2 a m).1, (f.2 a m).2, r.lst a m⟩⟩
  obtain ⟨_, _, xs, q⟩ := o.fr i a h
  rw [(f.2 a m).1] at q
  cases q
theorem mN_ref {Q : VK} (h : mOf K (mN be) σ H Q) : eOf K be σ H Q := by
  obtain ⟨S0, H0, S, env, Lf, Qd, o, hb, hQ⟩ := h
  refine ⟨S, hide env, _, o.ext.le, o.hid, hb, fun v S' H' t O q => ?_⟩
  obtain ⟨e, L, r, f⟩ := O
  refine hQ v S' H' t L env Lf e.s (o.grow e) r (o.pend r f) (fun a u h n => ⟨e.h a _ h, e.dom a u h, fun m => ?_, n⟩) q
  rw [(f.2 a m).1] at h; cases h
theorem mA_ref {Q : VK} (h : mOf K (mA be) σ H Q) : eOf K be σ H Q := by
  obtain ⟨S0, H0, S, env, Lf, Qd, o, hb, hQ⟩ := h
  refine ⟨lent S H Lf, env, _, o.lentH, o.lendE, hb, fun v S' H' t O ⟨c, q⟩ => ?_⟩
  obtain ⟨e, L, r, f⟩ := O
  have e2 := o.back e
  have r2 : Res K (unlent S' Lf) H' v t L := r.lose (fun a => by
    by_cases m : ∃ i, a ∈ Lf i
    · obtain ⟨i, m⟩ := m
      obtain ⟨_, _, xs, q⟩ := o.fr i a m
      exact .inr ⟨xs, (e.dom a _ q).trans ((lent_in m).trans q)⟩
    · exact .inl (unlent_out m)) c
  have f2 : Frs H (unlent S' Lf) L := ⟨f.1, fun a m => ⟨(f.2 a m).1, by
    by_cases z : ∃ i, a ∈ Lf i
    · obtain ⟨i, z⟩ := z
      exact unlent_in z
    · rw [unlent_out z]; exact (f.2 a m).2⟩⟩
  refine hQ v (unlent S' Lf) H' t L env Lf e2.s (o.grow e2) r2 (o.pend r2 f2) (fun a u h n => ⟨e.h a _ h, e2.dom a u h, fun m => ?_, n⟩) q
  rw [(f.2 a m).1] at h; cases h
theorem m_n (h : PB X e be) : PM X e (mN be) := pe_weak h fun _ _ _ => mN_ref
theorem m_a (h : PB X e be) : PM X e (mA be) := pe_weak h fun _ _ _ => mA_ref
theorem m_v (i : Nat) {x : Str} (hN : X.N[i]? = some x := by rfl) (hv : Vis X.env.scope x := by first | exact Or.inl rfl | exact Or.inr (Or.inl rfl) | exact Or.inr (Or.inr rfl)) (hd : (x == ("__debug__" : Str)) = false := by decide)
    (hcd : (x == ("__classdict__" : Str)) = false := by decide) : PM X (.Name x pos) (mV i) := pe_weak (pe_var hN hv hd hcd) fun σ H Q ⟨S0, H0, S, env, Lf, Qd, o, hb, hQ⟩ => by
  unfold mV at hb
  cases h : nth env i with
  | none => rw [h] at hb; exact hb.elim
  | some t =>
    rw [h] at hb
    obtain ⟨v, h1, h2⟩ := o.slot i t h
    refine ⟨v, h1, hQ v S H t (Lf i) (env.set i none) (fun j => if j = i then [] else Lf j) (.refl _) ⟨o.ext, by rw [List.length_set]; exact o.len, fun j u hu => ?_, fun j => ?_, fun j k a m1 m2 => ?_, fun j a m => ?_⟩ h2 ⟨o.nod i, fun a m => ⟨fun j hj => ?_, o.fr i a m⟩⟩ (fun a u h n => ⟨h, rfl, n i, fun j hj => ?_⟩) hb⟩
    · rw [nth_set] at hu
      by_cases hji : j = i
      · subst hji
        have hl : j < env.length := by rw [← o.len]; exact (List.getElem?_eq_some_iff.mp h1).1
        rw [if_pos ⟨rfl, hl⟩] at hu
        cases hu
      · rw [if_neg (fun z => hji z.1)] at hu
        rw [if_neg hji]
        exact o.slot j u hu
    · show (if j = i then [] else Lf j).Nodup
      split
      · exact List.nodup_nil
      · exact o.nod j
    · have m1 : a ∈ if j = i then [] else Lf j := m1
      have m2 : a ∈ if k = i then [] else Lf k := m2
      split at m1
      · cases m1
      · split at m2
        · cases m2
        · exact o.dis j k a m1 m2
    · have m : a ∈ if j = i then [] else Lf j := m
      split at m
      · cases m
      · exact o.fr j a m
    · have hj : a ∈ if j = i then [] else Lf j := hj
      split at hj
      · cases hj
      · rename_i z
        exact z (o.dis j i a hj m)
    · have hj : a ∈ if j = i then [] else Lf j := hj
      split at hj
      · cases hj
      · exact n j hj
/-- what was pending is shared for good -/
theorem Own.shareP (o : Own K S0 H0 S H σ env Lf) (r : Res K S H v t L) (p : Pend L Lf H0 S H) : Own K S0 H0 (shr S H L) H σ env Lf ∧ At K (shr S H L) v t.d ∧ Same S (shr S H L) := by
  have e := shr_le (L := L) o.ext.le
  refine ⟨⟨⟨o.ext.s.trans e, o.ext.h, shr_ge o.ext.le, fun a u h => ?_⟩, o.len, fun i u h => ?_, o.nod, o.dis, fun i a m => ?_⟩, r.share e fun a m => shr_in m, e⟩
  · have n : a ∉ L := fun m => by rw [(p.2 a m).2.1] at h; cases h
    rw [shr_out n]
    exact o.ext.dom a u h
  · obtain ⟨w, h1, h2⟩ := o.slot i u h
    exact ⟨w, h1, h2.mono e fun _ _ => rfl⟩
  · obtain ⟨h1, h2, h3⟩ := o.fr i a m
    refine ⟨h1, ?_, h3⟩
    rw [shr_out fun z => (p.2 a z).1 i m]
    exact h2
/-- a list of ours is written -/
theorem Own.write {i : Nat} {p : Addr} {xs ys : List V} {ds : List D} {t : T} (o : Own K S0 H0 S H σ env Lf) (hi : i < env.length) (hv : σ[i]? = some (some (.ref p))) (hL : Lf i = p :: L) (r : Res K S (upd H p (.lst ys)) (.ref p) t (p :: L)) : Own K S0 H0 S (upd H p (.lst ys)) σ (env.set i (some t)) Lf := by
  have hp : p ∈ Lf i := by rw [hL]; simp
  have ne : ∀ j a, a ∈ Lf j → j ≠ i → a ≠ p := fun j a m z w => by subst w; exact z (o.dis j i a m hp)
  obtain ⟨f1, f2, zs, f3⟩ := o.fr i p hp
  refine ⟨⟨o.ext.s, fun a u h => ?_, fun a u h => ?_, o.ext.dom⟩, by rw [List.length_set]; exact o.len, fun j u hu => ?_, o.nod, o.dis, fun j a m => ?_⟩
  · have : a ≠ p := fun z => by subst z; rw [f1] at h; cases h
    rw [upd_ne this]; exact o.ext.h a u h
  · have : a ≠ p := fun z => by subst z; rw [f2] at h; cases h
    rw [upd_ne this]; exact o.ext.le a u h
  · rw [nth_set] at hu
    by_cases hji : j = i
    · subst hji
      rw [if_pos ⟨rfl, hi⟩] at hu
      cases hu
      exact ⟨_, hv, by rw [hL]; exact r⟩
    · rw [if_neg (fun z => hji z.1)] at hu
      obtain ⟨w, h1, h2⟩ := o.slot j u hu
      exact ⟨w, h1, h2.mono (.refl _) fun a m => upd_ne (ne j a m hji)⟩
  · obtain ⟨g1, g2, ws, g3⟩ := o.fr j a m
    refine ⟨g1, g2, ?_⟩
    by_cases z : a = p
    · subst z; exact ⟨.lst ys, upd_same⟩
    · rw [upd_ne z]; exact ⟨ws, g3⟩

/-! ### stores into names -/
theorem Own.put1 {j : Nat} (o : Own K S0 H0 S H σ env Lf) (r : Res K S H v t L) (p : Pend L Lf H0 S H) (hj : j < env.length) : Own K S0 H0 S H (σ.set j (some v)) (env.set j (some t)) (fun i => if i = j then L else Lf i) where
  ext := o.ext
  len := by rw [List.length_set, List.length_set]; exact o.len
  slot := fun i u hu => by
    rw [nth_set] at hu
    by_cases hi : i = j
    · subst hi
      rw [if_pos ⟨rfl, hj⟩] at hu
      cases hu
      rw [if_pos rfl]
      exact ⟨v, List.getElem?_set_self (by rw [o.len]; exact hj), r⟩
    · rw [if_neg (fun z => hi z.1)] at hu
      obtain ⟨w, h1, h2⟩ := o.slot i u hu
      rw [if_neg hi]
      exact ⟨w, by rw [List.getElem?_set_ne (fun z => hi z.symm)]; exact h1, h2⟩
  nod := fun i => by
    show (if i = j then L else Lf i).Nodup
    split
    · exact p.1
    · exact o.nod i
  dis := fun i k a m1 m2 => by
    have m1 : a ∈ if i = j then L else Lf i := m1
    have m2 : a ∈ if k = j then L else Lf k := m2
    split at m1 <;> split at m2
    · rename_i z1 z2; rw [z1, z2]
    · exact ((p.2 a m1).1 k m2).elim
    · exact ((p.2 a m2).1 i m1).elim
    · exact o.dis i k a m1 m2
  fr := fun i a m => by
    have m : a ∈ if i = j then L else Lf i := m
    split at m
    · exact (p.2 a m).2
    · exact o.fr i a m
theorem Own.putx {j : Nat} (o : Own K S0 H0 S H σ env Lf) (r : Res K S H v t L) (p : Pend L Lf H0 S H) : ∃ Lf', Own K S0 H0 S H (σ.set j (some v)) (env.set j (some t)) Lf' ∧ ∀ i a, a ∈ Lf' i → a ∈ L ∨ a ∈ Lf i := by
  by_cases hj : j < env.length
  · refine ⟨_, o.put1 r p hj, fun i a m => ?_⟩
    have m : a ∈ if i = j then L else Lf i := m
    split at m
    · exact .inl m
    · exact .inr m
  · refine ⟨Lf, ?_, fun i a m => .inr m⟩
    rw [List.set_eq_of_length_le (by rw [o.len]; omega), List.set_eq_of_length_le (by omega)]
    exact o
theorem own_sets {Q : L2.St → Hp → Prop} : ∀ {js : List Nat} {ts : List T} {vs : List V} {L : List Addr} {σ : L2.St} {env : List (Option T)} {Lf : Nat → List Addr}, Own K S0 H0 S H σ env Lf → Ress K S H vs ts L → Pend L Lf H0 S H → js.length = ts.length →
    (∀ σ' Lf', Own K S0 H0 S H σ' (sets env js ts) Lf' → Q σ' H) → gNs js vs σ H Q
  | [], [], _, _, σ, env, Lf, o, r, _, _, k => by
    cases r
    exact ⟨rfl, k σ Lf o⟩
  | [], _ :: _, _, _, _, _, _, _, _, _, h, _ => by cases h
  | _ :: _, [], _, _, _, _, _, _, _, _, h, _ => by cases h
  | j :: js, t :: ts, _, _, σ, env, Lf, o, r, p, hl, k => by
    cases r with
    | @cons v _ vs _ L M h a =>
      have nd := List.nodup_append.mp p.1
      obtain ⟨Lf', o', sub⟩ := o.putx (j := j) h ⟨nd.1, fun a m => p.2 a (List.mem_append_left _ m)⟩
      refine ⟨v, vs, rfl, ?_⟩
      refine own_sets o' a ⟨nd.2.1, fun a m => ?_⟩ (by simpa using hl) k
      obtain ⟨q1, q2⟩ := p.2 a (List.mem_append_right _ m)
      refine ⟨fun i z => ?_, q2⟩
      rcases sub i a z with z | z
      · exact nd.2.2 a z a m rfl
      · exact q1 i z
theorem ress_of_ats {xs : List V} {ds : List D} (h : Ats K S xs ds) : Ress K S H xs (ds.map T.sh) [] := by
  induction ds generalizing xs with
  | nil => cases h; exact .nil
  | cons d ds ih =>
    cases h with
    | cons h a => exact .cons (.sh h) (ih a)
theorem own_put {tg : Tg} {env1 : List (Option T)} {Q : L2.St → Hp → Prop} (o : Own K S0 H0 S H σ env Lf) (r : Res K S H v t L) (p : Pend L Lf H0 S H) (hp : tg.put t env = some env1) (k : ∀ σ' Lf', Own K S0 H0 S H σ' env1 Lf' → Q σ' H) : tg.g K v σ H Q := by
  cases tg with
  | n j =>
    cases hp
    obtain ⟨Lf', o', _⟩ := o.putx (j := j) r p
    exact k _ _ o'
  | t js =>
    cases r with
    | sh a =>
      cases a with
      | @tup p xs ds hx ha =>
        have hp : (if js.length = ds.length then some (sets env js (ds.map T.sh)) else none) = some env1 := hp
        split at hp
        · cases hp
          rename_i hl
          exact ⟨p, xs, rfl, same_t o.ext.le hx, by rw [ha.length, hl], own_sets o (ress_of_ats ha) ⟨List.nodup_nil, fun _ m => by cases m⟩ (by rw [List.length_map]; exact hl) k⟩
        · cases hp
      | _ => cases hp
    | @tp q xs ts L hx hr =>
      have hp : (if js.length = ts.length then some (sets env js ts) else none) = some env1 := hp
      split at hp
      · cases hp
        rename_i hl
        exact ⟨q, xs, rfl, same_t o.ext.le hx, by rw [hr.length, hl], own_sets o hr p hl k⟩
      · cases hp
    | _ => cases hp

/-! ### statements -/
/-- an exception: the name of its class, its place where it has one -/
structure Xn where
  c : Str
  p : Option D
def flatAt : V → D → Prop
  | .non, .non => True
  | .int i, .int j => i = j
  | _, _ => False
def XAt (mg : Str → Option Value) (H : Hp) (cls : Value) (d : Option Addr) (x : Xn) : Prop := ∃ C, mg x.c = some (.ref C) ∧ cls = .ref C ∧ match x.p with
  | none => d = none
  | some q => ∃ dd v, d = some dd ∧ H dd = some (.xd [("place", v)]) ∧ flatAt v q
/-- the weakest wish about exceptions that the context takes -/
def Wx (X : Cx) : WX := fun cls d σ H => ∀ (u : Value) (s' : Shared) (a : Addr) (B : Heap) (sI : Shared) (pins : List (Addr × Obj)), u = .ref a → Inv X pins σ H sI → (∀ b o, sI.heap.get? b = some o → b ∉ frs X.stack → B.get? b = some o) → sI.heap.UpToSlots s'.heap →
  Sky B X.stack a (Zc cls d) X.env.locals s'.heap → H a = none → s'.os = sI.os → PyProof.Rows.AllBare s'.gens → X.xe u s'
theorem takes_Wx (X : Cx) : Takes X (Wx X) := fun u s' ⟨a, B, sI, pins, σ, H, cls, d, e, I, nb, up, sky, na, os, ag, w⟩ => w u s' a B sI pins e I nb up sky na os ag
theorem Wx_of {X : Cx} {W : WX} (tk : Takes X W) {cls : Value} {d : Option Addr} {σ : L2.St} {H : Hp} (w : W cls d σ H) : Wx X cls d σ H := fun u s' a B sI pins e I nb up sky na os ag => tk u s' ⟨a, B, sI, pins, σ, H, cls, d, e, I, nb, up, sky, na, os, ag, w⟩
structure DEnds where
  nx : List (Option T) → Prop
  rt : T → List (Option T) → Prop
  bk : List (Option T) → Prop
  ct : List (Option T) → Prop
  xc : Xn → List (Option T) → Prop
abbrev DS := DEnds → List (Option T) → Prop
def XL (K : PySem.W.Frag) (mg : Str → Option Value) (W : WX) (S0 H0 S : Hp) (xc : Xn → List (Option T) → Prop) : Prop := ∀ S' H' σ' env' Lf' cls dx xn, Same S S' → Own K S0 H0 S' H' σ' env' Lf' → XAt mg H' cls dx xn → xc xn env' → W cls dx σ' H'
theorem XL.step {K : PySem.W.Frag} {mg : Str → Option Value} {W : WX} {S0 H0 S S1 : Hp} {xc : Xn → List (Option T) → Prop} (h : XL K mg W S0 H0 S xc) (e : Same S S1) : XL K mg W S0 H0 S1 xc := fun S' H' σ' env' Lf' cls dx xn e' => h S' H' σ' env' Lf' cls dx xn (e.trans e')
def sOfW (K : PySem.W.Frag) (mg : Str → Option Value) (W : WX) (d : DS) : TS := fun D σ H => ∃ (S0 H0 S : Hp) (env : List (Option T)) (Lf : Nat → List Addr) (De : DEnds), Own K S0 H0 S H σ env Lf ∧ d De env ∧
  (∀ S' H' σ' env' Lf', Same S S' → Own K S0 H0 S' H' σ' env' Lf' → De.nx env' → D.nx σ' H') ∧ (∀ S' H' σ' env' Lf', Same S S' → Own K S0 H0 S' H' σ' env' Lf' → De.bk env' → D.bk σ' H') ∧
  (∀ S' H' σ' env' Lf', Same S S' → Own K S0 H0 S' H' σ' env' Lf' → De.ct env' → D.ct σ' H') ∧ (∀ v S' H' σ' env' Lf' t L, Own K S0 H0 S' H' σ' env' Lf' → Res K S' H' v t L → Pend L Lf' H0 S' H' → De.rt t env' → D.rt v H') ∧ XL K mg W S0 H0 S De.xc
abbrev sOf (X : Cx) (d : DS) : TS := sOfW X.K X.mg (Wx X) d
abbrev PSd (X : Cx) (st : Stmt) (d : DS) : Prop := PS X st (sOf X d)
abbrev PSds (X : Cx) (st : List Stmt) (d : DS) : Prop := PSs X st (sOf X d)
variable {st : Stmt} {rest : List Stmt} {du dv : DS}
def sNext : DS := fun De env => De.nx env
def sSeq (d e : DS) : DS := fun De env => d { De with nx := e De } env
/-- .. by a word between the two -/
def sCut (d e : DS) : DS := fun De env => ∃ M : List (Option T) → Prop, d { De with nx := M } env ∧ ∀ env', M env' → e De env'
def sNever : DS := fun _ _ => False
theorem s_nil : PSds X [] sNext := pss_weak pss_nil fun D σ H ⟨S0, H0, S, env, Lf, De, o, h, k, _⟩ => k S H σ env Lf (.refl _) o h
theorem s_one (h : PSd X st du) : PSds X [st] du := pss_one h
theorem s_seq (h : PSd X st du) (k : PSds X rest dv) : PSds X (st :: rest) (sSeq du dv) := pss_weak (pss_cons h k) fun D σ H ⟨S0, H0, S, env, Lf, De, o, hd, n, b, c, r⟩ =>
  ⟨S0, H0, S, env, Lf, _, o, hd, fun S' H' σ' env' Lf' e o' q => ⟨S0, H0, S', env', Lf', De, o', q, fun S2 H2 σ2 env2 Lf2 e2 => n S2 H2 σ2 env2 Lf2 (e.trans e2), fun S2 H2 σ2 env2 Lf2 e2 => b S2 H2 σ2 env2 Lf2 (e.trans e2), fun S2 H2 σ2 env2 Lf2 e2 => c S2 H2 σ2 env2 Lf2 (e.trans e2), r.1, r.2.step e⟩, b, c, r⟩
theorem s_cut (h : PSd X st du) (k : PSds X rest dv) : PSds X (st :: rest) (sCut du dv) := pss_weak (pss_cons h k) fun D σ H ⟨S0, H0, S, env, Lf, De, o, ⟨M, hd, hm⟩, n, b, c, r⟩ =>
  ⟨S0, H0, S, env, Lf, _, o, hd, fun S' H' σ' env' Lf' e o' q => ⟨S0, H0, S', env', Lf', De, o', hm _ q, fun S2 H2 σ2 env2 Lf2 e2 => n S2 H2 σ2 env2 Lf2 (e.trans e2), fun S2 H2 σ2 env2 Lf2 e2 => b S2 H2 σ2 env2 Lf2 (e.trans e2), fun S2 H2 σ2 env2 Lf2 e2 => c S2 H2 σ2 env2 Lf2 (e.trans e2), r.1, r.2.step e⟩, b, c, r⟩
theorem s_never : PSd X st sNever := ps_weak ps_never fun D σ H ⟨_, _, _, _, _, _, _, h, _⟩ => h.elim
theorem s_pass : PSd X (.Pass pos) sNext := ps_weak ps_pass fun D σ H ⟨S0, H0, S, env, Lf, De, o, h, k, _⟩ => k S H σ env Lf (.refl _) o h
def sBreak : DS := fun De env => De.bk env
def sCont : DS := fun De env => De.ct env
theorem s_break : PSd X (.Break pos) sBreak := ps_weak ps_break fun D σ H ⟨S0, H0, S, env, Lf, De, o, h, _, k, _⟩ => k S H σ env Lf (.refl _) o h
theorem s_cont : PSd X (.Continue pos) sCont := ps_weak ps_continue fun D σ H ⟨S0, H0, S, env, Lf, De, o, h, _, _, k, _⟩ => k S H σ env Lf (.refl _) o h
def sDrop (b : BM) : DS := fun De env => b env fun _ env1 => De.nx env1
theorem s_expr (h : PM X e bm) (hs : swapsWith e none pos.line X.env = pure false := by rfl) : PSd X (.Expr e pos) (sDrop bm) := ps_weak (ps_expr h hs) fun D σ H ⟨S0, H0, S, env, Lf, De, o, hd, k, _⟩ =>
  ⟨S0, H0, S, env, Lf, _, o, hd, fun v S' H' t L env' Lf' e o' r p _ q => k S' H' σ env' Lf' e o' q⟩
def sRet (b : BM) : DS := fun De env => b env fun t env1 => De.rt t env1
theorem Own.out (o : Own K S0 H0 S H σ env Lf) (r : Res K S H v t L) (p : Pend L Lf H0 S H) : Out K S0 H0 v t S H := ⟨o.ext, L, r, p.1, fun a m => ⟨(p.2 a m).2.1, (p.2 a m).2.2.1⟩⟩
theorem s_ret (h : PM X e bm) : PSd X (.Return (some e) pos) (sRet bm) := ps_weak (ps_ret h) fun D σ H ⟨S0, H0, S, env, Lf, De, o, hd, _, _, _, k⟩ =>
  ⟨S0, H0, S, env, Lf, _, o, hd, fun v S' H' t L env' Lf' e o' r p _ q => k.1 v S' H' σ env' Lf' t L o' r p q⟩
def sRetN : DS := fun De env => De.rt (.sh .non) env
theorem s_retN : PSd X (.Return none pos) sRetN := ps_weak ps_retN fun D σ H ⟨S0, H0, S, env, Lf, De, o, hd, _, _, _, k⟩ => k.1 .non S H σ env Lf _ [] o (.sh .non) ⟨List.nodup_nil, fun _ m => by cases m⟩ hd
def sIf (c : BTT) (d e : DS) : DS := fun De env => c env fun k => (k = true → d De env) ∧ (k = false → e De env)
variable {q : BTT}
theorem s_if {as bs : List Stmt} (hc : PQ X c q) (h : PSds X as du) (k : PSds X bs dv) : PSd X (.If c as bs pos) (sIf q du dv) := ps_weak (ps_if hc h k) fun D σ H ⟨S0, H0, S, env, Lf, De, o, hd, n, b, c, r⟩ => by
  refine ⟨lent S H Lf, env, _, o.lentH, o.lendE, hd, fun k S' H' e ⟨h1, h2⟩ => ?_⟩
  have e2 := o.back e
  have o2 := o.grow e2
  cases k with
  | true => exact iteT ⟨S0, H0, _, env, Lf, De, o2, h1 rfl, fun S2 H2 σ2 env2 Lf2 e3 => n S2 H2 σ2 env2 Lf2 (e2.s.trans e3), fun S2 H2 σ2 env2 Lf2 e3 => b S2 H2 σ2 env2 Lf2 (e2.s.trans e3), fun S2 H2 σ2 env2 Lf2 e3 => c S2 H2 σ2 env2 Lf2 (e2.s.trans e3), r.1, r.2.step e2.s⟩
  | false => exact iteF ⟨S0, H0, _, env, Lf, De, o2, h2 rfl, fun S2 H2 σ2 env2 Lf2 e3 => n S2 H2 σ2 env2 Lf2 (e2.s.trans e3), fun S2 H2 σ2 env2 Lf2 e3 => b S2 H2 σ2 env2 Lf2 (e2.s.trans e3), fun S2 H2 σ2 env2 Lf2 e3 => c S2 H2 σ2 env2 Lf2 (e2.s.trans e3), r.1, r.2.step e2.s⟩
def sAsg (tg : Tg) (b : BM) : DS := fun De env => b env fun t env1 => ∃ env2, tg.put t env1 = some env2 ∧ De.nx env2
theorem asg_ref {mg : Str → Option Value} {W : WX} {tg : Tg} {D : Ends} (h : sOfW K mg W (sAsg tg bm) D σ H) : mOf K bm σ H fun x H1 => tg.g K x σ H1 D.nx := by
  obtain ⟨S0, H0, S, env, Lf, De, o, hd, n, b, c, r⟩ := h
  exact ⟨S0, H0, S, env, Lf, _, o, hd, fun v S' H' t L env' Lf' e o' r p _ ⟨env2, hp, q⟩ => own_put o' r p hp fun σ2 Lf2 o2 => n S' H' σ2 env2 Lf2 e o2 q⟩
theorem s_asg {tge : Expr} {tg : Tg} (h : PM X e bm) (g : PG X tge (tg.g X.K)) (hs : swapsWithSole [tge] e pos.line X.env = pure false := by rfl) (hw : swappedStores [tge] e X.env = pure none := by rfl)
    (h1 : (assignEach [tge] X.env).map (·.2) = [assign tge X.env] := by rfl) : PSd X (.Assign [tge] e pos) (sAsg tg bm) := ps_weak (ps_asg h g hs hw h1) fun D σ H h => asg_ref h
theorem s_set {i : Nat} {x : Str} {pos' : Pos} (h : PM X e bm) (hN : X.N.Nodup) (hi : X.N[i]? = some x) (hx : Loc X.env.scope x) (hs : swapsWith e (some (.Name x pos')) pos.line X.env = pure false := by rfl) (hf : X.fn x = true ∨ X.env.scope.names.lookup x = some .local := by first | exact .inl rfl | exact .inr rfl | assumption) :
    PSd X (.Assign [.Name x pos'] e pos) (sAsg (.n i) bm) := ps_weak (ps_set hN hi hx h hs hf) fun D σ H h => asg_ref (tg := .n i) h
theorem s_setLc {i : Nat} {y : Str} {py spos : Pos} {bi : BI} {tge elt iter : Expr} {ifs : List Expr} {scope : Scope} {own : List (Str × Nat)} {tg : Tg} {bt : BTT} {be : BT} (all : Bool) (hc : X.calm = true) (hN : X.N.Nodup) (hy : X.N[i]? = some y) (hyl : X.env.scope.names.lookup y = some .local)
    (hsw : swapsWith (.ListComp elt [⟨tge, iter, ifs, 0⟩] scope pos) (some (.Name y py)) spos.line X.env = pure true) (hi : PIb X tge iter bi) (ok : BlkOk X.N X.env.scope scope own)
    (hg : ∀ (s : Shared) (H : Hp) (C : Addr) (cl : List (Str × Addr)) (fp : List Addr), PG (X.blk s H scope (compEnvC scope cl C X.env) fp) tge (tg.g X.K)) (ht : ∀ (s : Shared) (H : Hp) (C : Addr) (cl : List (Str × Addr)) (fp : List Addr), PTs (X.blk s H scope (compEnvC scope cl C X.env) fp) ifs (tOf X.K bt))
    (he : ∀ (s : Shared) (H : Hp) (C : Addr) (cl : List (Str × Addr)) (fp : List Addr), PE (X.blk s H scope (compEnvC scope cl C X.env) fp) elt (eOf X.K be)) (hs : ∀ x, foldedSetIterable iter X.env x = pure x := by intro _; rfl) (hj : ∀ j ∈ tg.js, j ∈ own.map (·.2) := by decide) :
    PSd X (.Assign [.Name y py] (.ListComp elt [⟨tge, iter, ifs, 0⟩] scope pos) spos) (sAsg (.n i) (if all then mA (bLc bi tg bt be (own.map (·.2))) else mN (bLc bi tg bt be (own.map (·.2))))) := ps_weak (ps_setLc hc hN hy hyl hsw hi ok hg ht he hs) fun D σ H h => by
  have h2 := asg_ref h
  cases all with
  | true => exact lc_ref hj (mA_ref h2)
  | false => exact lc_ref hj (mN_ref h2)

/-! ### for -/
def sFor (bi : BI) (tg : Tg) (body : DS) : DS := fun De env => bi (hide env) fun items => ∃ (α : Type) (xs : List α) (f : α → D) (I : List α → List (Option T) → Prop), items = xs.map f ∧ I [] env ∧
  (∀ ps x qs env', xs = ps ++ x :: qs → I ps env' → ∃ env1, tg.put (.sh (f x)) env' = some env1 ∧ body ⟨I (ps ++ [x]), De.rt, De.nx, I (ps ++ [x]), De.xc⟩ env1) ∧ ∀ env', I xs env' → De.nx env'
theorem s_for {bi : BI} {tg : Tg} {tge iter : Expr} {body : List Stmt} (hp : PassesOwn (model X.prog X.w) X.A X.env X.xe) (hc : X.calm = true) (hi : PIb X tge iter bi) (hg : PG X tge (tg.g X.K)) (hb : PSds X body du) (hs : ∀ x, foldedSetIterable iter X.env x = pure x := by intro _; rfl) :
    PSd X (.For tge iter body [] pos) (sFor bi tg du) := ps_weak (ps_for hp hc hi hg hb hs) fun D σ H ⟨S0, H0, S, env, Lf, De, o, hd, n, b, c, r⟩ => by
  refine ⟨S, hide env, _, o.ext.le, o.hid, hd, fun J S1 H1 items e1 io ⟨α, xs, f, I, hx, h0, hstep, hend⟩ => ?_⟩
  subst hx
  have hlen : (xs.map f).length = xs.length := List.length_map ..
  have o1 := o.grow e1
  refine ⟨fun i m σ' H' => m = xs.length - i ∧ i ≤ xs.length ∧ ∃ S' env' Lf', Same S1 S' ∧ Own X.K S0 H0 S' H' σ' env' Lf' ∧ I (xs.take i) env', ⟨xs.length, by simp, Nat.zero_le _, S1, env, Lf, .refl _, o1, h0⟩, ?_⟩
  rintro i m σ' H' ⟨rfl, hil, S', env', Lf', es, o', hI⟩
  by_cases hlt : i < xs.length
  · refine .inr ⟨io.1 i H' (es.trans o'.ext.le) (by omega), fun σ2 H2 => i + 1 ≤ xs.length ∧ ∃ S2 env2 Lf2, Same S1 S2 ∧ Own X.K S0 H0 S2 H2 σ2 env2 Lf2 ∧ I (xs.take (i + 1)) env2, fun σ2 H2 h => ⟨xs.length - (i + 1), by omega, rfl, h.1, h.2⟩, fun x H2 y => ?_⟩
    obtain ⟨d, S2, hd, e2, a2⟩ := io.2.2 i S' H' x H2 (by omega) es o'.ext.le y
    have hxi : xs[i]? = some xs[i] := by simp [hlt]
    rw [List.getElem?_map, hxi] at hd
    cases hd
    have hsp : xs = xs.take i ++ xs[i] :: xs.drop (i + 1) := by rw [List.getElem_cons_drop, List.take_append_drop]
    have htk : xs.take (i + 1) = xs.take i ++ [xs[i]] := by rw [List.take_add_one, hxi] <;> rfl
    obtain ⟨env1, hput, hbody⟩ := hstep _ _ _ env' hsp hI
    refine own_put (o'.grow e2) (.sh a2) ⟨List.nodup_nil, fun _ m => by cases m⟩ hput fun σ2 Lf2 o2 => ?_
    refine ⟨S0, H0, S2, env1, Lf2, _, o2, hbody, fun S3 H3 σ3 env3 Lf3 e3 o3 h3 => ⟨hlt, S3, env3, Lf3, (es.trans e2.s).trans e3, o3, by rw [htk]; exact h3⟩, fun S3 H3 σ3 env3 Lf3 e3 o3 h3 => n S3 H3 σ3 env3 Lf3 (((e1.s.trans es).trans e2.s).trans e3) o3 h3,
      fun S3 H3 σ3 env3 Lf3 e3 o3 h3 => ⟨hlt, S3, env3, Lf3, (es.trans e2.s).trans e3, o3, by rw [htk]; exact h3⟩, r.1, r.2.step ((e1.s.trans es).trans e2.s)⟩
  · have e : i = xs.length := by omega
    subst e
    rw [List.take_length] at hI
    exact .inl ⟨by have := io.2.1 H' (es.trans o'.ext.le); rwa [hlen] at this, n S' H' σ' env' Lf' (e1.s.trans es) o' (hend _ hI)⟩

/-! ### a list of ours grows, shrinks, changes -/
theorem Own.owAt {i : Nat} {ds : List D} (o : Own K S0 H0 S H σ env Lf) (h : nth env i = some (.ow ds)) : ∃ p xs, σ[i]? = some (some (.ref p)) ∧ H p = some (.lst xs) ∧ Ats K S xs ds ∧ Lf i = [p] ∧ i < env.length := by
  obtain ⟨v, h1, h2⟩ := o.slot i _ h
  generalize hL : Lf i = L at h2
  cases h2 with
  | @ow p xs _ hp ha => exact ⟨p, xs, h1, hp, ha, rfl, by rw [← o.len]; exact (List.getElem?_eq_some_iff.mp h1).1⟩
theorem Own.owsAt {i : Nat} {ts : List T} (o : Own K S0 H0 S H σ env Lf) (h : nth env i = some (.ows ts)) : ∃ p xs L, σ[i]? = some (some (.ref p)) ∧ H p = some (.lst xs) ∧ Ress K S H xs ts L ∧ Lf i = p :: L ∧ i < env.length := by
  obtain ⟨v, h1, h2⟩ := o.slot i _ h
  generalize hL : Lf i = L at h2
  cases h2 with
  | @ows p xs _ L hp ha => exact ⟨p, xs, L, h1, hp, ha, rfl, by rw [← o.len]; exact (List.getElem?_eq_some_iff.mp h1).1⟩
theorem Own.writeOw {i : Nat} {p : Addr} {ys : List V} {ds : List D} (o : Own K S0 H0 S H σ env Lf) (hi : i < env.length) (hv : σ[i]? = some (some (.ref p))) (hL : Lf i = [p]) (a : Ats K S ys ds) : Own K S0 H0 S (upd H p (.lst ys)) σ (env.set i (some (.ow ds))) Lf :=
  o.write (xs := ys) (ds := ds) hi hv hL (.ow upd_same a)
def isOw : Option T → Bool
  | some (.ow _) => true
  | some (.ows _) => true
  | _ => false
def sApp (i : Nat) (b : BM) : DS := fun De env => isOw (nth env i) = true ∧ b env fun t env1 => match nth env1 i with
  | some (.ow ds) => ds.length < 100000 ∧ De.nx (env1.set i (some (.ow (ds ++ [t.d]))))
  | _ => False
theorem isOw_lst {i : Nat} (o : Own K S0 H0 S H σ env Lf) (h : isOw (nth env i) = true) : ∃ p xs, σ[i]? = some (some (.ref p)) ∧ H p = some (.lst xs) := by
  cases e : nth env i with
  | none => rw [e] at h; cases h
  | some t =>
    rw [e] at h
    cases t with
    | ow ds => obtain ⟨p, xs, h1, h2, _⟩ := o.owAt e; exact ⟨p, xs, h1, h2⟩
    | ows ts => obtain ⟨p, xs, _, h1, h2, _⟩ := o.owsAt e; exact ⟨p, xs, h1, h2⟩
    | _ => cases h
theorem lt_line {n : Nat} (h : n < 100000) : n < sizeLine := Nat.lt_of_lt_of_le h (by decide)
theorem s_app (i : Nat) {x : Str} {npos apos cpos : Pos} (hm : PM X e bm) (hN : X.N[i]? = some x := by rfl) (hv : Vis X.env.scope x := by first | exact Or.inl rfl | exact Or.inr (Or.inl rfl) | exact Or.inr (Or.inr rfl)) (hd : (x == ("__debug__" : Str)) = false := by decide)
    (hcd : (x == ("__classdict__" : Str)) = false := by decide) (hbase : attributeBase (.Name x npos) "append" X.env (eval (.Name x npos) X.env) = eval (.Name x npos) X.env := by rfl)
    (hfew : ((backTo cpos (starEach [e] X.env)).all (fun x => !x.1) && (backToKw cpos (keywordEach [] X.env)).all (fun x => x.1.isSome) && decide (([e] : List Expr).length + ([] : List Keyword).length + (if ([] : List Keyword).isEmpty then 0 else 1) < 30)) = true := by rfl)
    (hline : (apos.endLine == cpos.line) = true := by rfl) (hs : starEach [e] X.env = (false, eval e X.env) :: starEach [] X.env := by rfl) (hplain : (backTo cpos (starEach [] X.env)).any (·.1) = false := by rfl) :
    PSd X (.Expr (.Call (.Attribute (.Name x npos) "append" apos) [e] [] cpos) pos) (sApp i bm) :=
  ps_weak (ps_expr (pe_bm PySem.F.plainAttrs_list PySem.F.slot_list_append PySem.F.type_list_append mt_append (pe_var hN hv hd hcd) (pa_cons hm pa_nil hs) hbase hfew hline hs hplain) rfl) fun D σ H ⟨S0, H0, S, env, Lf, De, o, ⟨hw, hd⟩, n, b, c, r⟩ => by
  obtain ⟨p, xs, h1, h2⟩ := isOw_lst o hw
  refine ⟨.ref p, h1, .inl ⟨rfl, xs, .inl (.inl h2)⟩, S0, H0, S, env, Lf, _, o, hd, fun v S' H' t L env' Lf' e o' r' pe _ q => ?_⟩
  obtain ⟨o2, a2, e2⟩ := o'.shareP r' pe
  cases e3 : nth env' i with
  | none => rw [e3] at q; exact q.elim
  | some u =>
    rw [e3] at q
    cases u with
    | ow ds =>
      obtain ⟨p2, ys, g1, g2, g3, g4, g5⟩ := o2.owAt e3
      rw [h1] at g1
      cases g1
      refine ⟨p, ys, v, rfl, rfl, g2, by rw [g3.length]; exact lt_line q.1, ?_⟩
      exact n _ _ σ _ Lf' (e.trans e2) (o2.writeOw g5 h1 g4 (g3.append (.cons a2 .nil))) q.2
    | _ => exact q.elim
end
end W

/-! FF: more that changes a list of ours; a def by its body over data. -/
namespace W
open PySem L2

section
variable {X : Cx} {K : PySem.W.Frag} {a b c e e2 : Expr} {es : List Expr} {be : BT} {bm bk : BM} {pos : Pos} {S0 H0 S H S' H' : Hp} {σ : L2.St} {env : List (Option T)} {Lf : Nat → List Addr} {v : V} {t : T} {L : List Addr}
theorem asI_res {Q : Int → Prop} (h : asI t Q) (r : Res K S H v t L) : ∃ k, v = .int k ∧ Q k := by
  obtain ⟨k, rfl, q⟩ := asI_at h
  cases r with
  | sh a => cases a; exact ⟨k, rfl, q⟩
def sIns (i : Nat) (bk bm : BM) : DS := fun De env => isOw (nth env i) = true ∧ bk env fun tk env1 => asI tk fun k => bm env1 fun t env2 => match nth env2 i with
  | some (.ow ds) => ds.length < 100000 ∧ 0 ≤ k ∧ k ≤ 1000000 ∧ De.nx (env2.set i (some (.ow (ds.take k.toNat ++ [t.d] ++ ds.drop k.toNat))))
  | _ => False
theorem s_ins (i : Nat) {x : Str} {npos apos cpos : Pos} (hk : PM X e bk) (hm : PM X e2 bm) (hN : X.N[i]? = some x := by rfl) (hv : Vis X.env.scope x := by first | exact Or.inl rfl | exact Or.inr (Or.inl rfl) | exact Or.inr (Or.inr rfl)) (hd : (x == ("__debug__" : Str)) = false := by decide)
    (hcd : (x == ("__classdict__" : Str)) = false := by decide) (hbase : attributeBase (.Name x npos) "insert" X.env (eval (.Name x npos) X.env) = eval (.Name x npos) X.env := by rfl)
    (hfew : ((backTo cpos (starEach [e, e2] X.env)).all (fun x => !x.1) && (backToKw cpos (keywordEach [] X.env)).all (fun x => x.1.isSome) && decide (([e, e2] : List Expr).length + ([] : List Keyword).length + (if ([] : List Keyword).isEmpty then 0 else 1) < 30)) = true := by rfl)
    (hline : (apos.endLine == cpos.line) = true := by rfl) (hs : starEach [e, e2] X.env = (false, eval e X.env) :: starEach [e2] X.env := by rfl) (hs2 : starEach [e2] X.env = (false, eval e2 X.env) :: starEach [] X.env := by rfl) (hplain : (backTo cpos (starEach [e2] X.env)).any (·.1) = false := by rfl) :
    PSd X (.Expr (.Call (.Attribute (.Name x npos) "insert" apos) [e, e2] [] cpos) pos) (sIns i bk bm) :=
  ps_weak (ps_expr (pe_bm PySem.F.plainAttrs_list PySem.F.slot_list_insert PySem.F.type_list_insert mt_insert (pe_var hN hv hd hcd) (pa_cons hk (pa_cons hm pa_nil hs2) hs) hbase hfew hline hs hplain) rfl) fun D σ H ⟨S0, H0, S, env, Lf, De, o, ⟨hw, hd⟩, n, b, c, r⟩ => by
  obtain ⟨p, xs, h1, h2⟩ := isOw_lst o hw
  refine ⟨.ref p, h1, .inl ⟨rfl, xs, .inl (.inl h2)⟩, S0, H0, S, env, Lf, _, o, hd, fun v S1 H1 t L env' Lf' e o' r' pe _ q => ?_⟩
  obtain ⟨k, rfl, q⟩ := asI_res q r'
  refine ⟨S0, H0, S1, env', Lf', _, o', q, fun v S' H' t L env2 Lf2 e1 o1 r1 pe _ q => ?_⟩
  obtain ⟨o2, a2, e2⟩ := o1.shareP r1 pe
  cases e3 : nth env2 i with
  | none => rw [e3] at q; exact q.elim
  | some u =>
    rw [e3] at q
    cases u with
    | ow ds =>
      obtain ⟨p2, ys, g1, g2, g3, g4, g5⟩ := o2.owAt e3
      rw [h1] at g1
      cases g1
      refine ⟨p, ys, k, v, rfl, rfl, g2, by rw [g3.length]; exact lt_line q.1, q.2.1, by omega, ?_⟩
      exact n _ _ σ _ Lf2 ((e.trans e1).trans e2) (o2.writeOw g5 h1 g4 (((g3.take _).append (.cons a2 .nil)).append (g3.drop _))) q.2.2.2
    | _ => exact q.elim
def sPopAt (i : Nat) (bk : BM) : DS := fun De env => isOw (nth env i) = true ∧ bk env fun tk env1 => asI tk fun k => match nth env1 i with
  | some (.ow ds) => 0 ≤ k ∧ k < ds.length ∧ k ≤ 1000000 ∧ De.nx (env1.set i (some (.ow (ds.eraseIdx k.toNat))))
  | _ => False
theorem seq_at {k : Int} {n : Nat} (h0 : 0 ≤ k) (h1 : k < n) : seqIndex? k n = some k.toNat := by
  have e : ixN n k = some k.toNat := by
    unfold ixN
    rw [if_pos h0, if_pos h1]
  exact (ixN_seq e).1
theorem s_popAt (i : Nat) {x : Str} {npos apos cpos : Pos} (hk : PM X e bk) (hN : X.N[i]? = some x := by rfl) (hv : Vis X.env.scope x := by first | exact Or.inl rfl | exact Or.inr (Or.inl rfl) | exact Or.inr (Or.inr rfl)) (hd : (x == ("__debug__" : Str)) = false := by decide)
    (hcd : (x == ("__classdict__" : Str)) = false := by decide) (hbase : attributeBase (.Name x npos) "pop" X.env (eval (.Name x npos) X.env) = eval (.Name x npos) X.env := by rfl)
    (hfew : ((backTo cpos (starEach [e] X.env)).all (fun x => !x.1) && (backToKw cpos (keywordEach [] X.env)).all (fun x => x.1.isSome) && decide (([e] : List Expr).length + ([] : List Keyword).length + (if ([] : List Keyword).isEmpty then 0 else 1) < 30)) = true := by rfl)
    (hline : (apos.endLine == cpos.line) = true := by rfl) (hs : starEach [e] X.env = (false, eval e X.env) :: starEach [] X.env := by rfl) (hplain : (backTo cpos (starEach [] X.env)).any (·.1) = false := by rfl) :
    PSd X (.Expr (.Call (.Attribute (.Name x npos) "pop" apos) [e] [] cpos) pos) (sPopAt i bk) :=
  ps_weak (ps_expr (pe_bm PySem.F.plainAttrs_list PySem.F.slot_list_pop PySem.F.type_list_pop mt_popAt (pe_var hN hv hd hcd) (pa_cons hk pa_nil hs) hbase hfew hline hs hplain) rfl) fun D σ H ⟨S0, H0, S, env, Lf, De, o, ⟨hw, hd⟩, n, b, c, r⟩ => by
  obtain ⟨p, xs, h1, h2⟩ := isOw_lst o hw
  refine ⟨.ref p, h1, .inl ⟨rfl, xs, .inl (.inl h2)⟩, S0, H0, S, env, Lf, _, o, hd, fun v S1 H1 t L env' Lf' e o' r' pe _ q => ?_⟩
  obtain ⟨k, rfl, q⟩ := asI_res q r'
  cases e3 : nth env' i with
  | none => rw [e3] at q; exact q.elim
  | some u =>
    rw [e3] at q
    cases u with
    | ow ds =>
      obtain ⟨k0, k1, k2, q⟩ := q
      obtain ⟨p2, ys, g1, g2, g3, g4, g5⟩ := o'.owAt e3
      rw [h1] at g1
      cases g1
      have hl := g3.length
      have hlt : k.toNat < ys.length := by omega
      refine ⟨p, ys, k, k.toNat, ys[k.toNat], rfl, rfl, g2, by omega, by omega, seq_at k0 (by omega), by simp [hlt], ?_⟩
      exact n _ _ σ _ Lf' e (o'.writeOw g5 h1 g4 (g3.erase _)) q
    | _ => exact q.elim

/-! ### stores into places -/
abbrev DG := T → List (Option T) → (List (Option T) → Prop) → Prop
def gOf (K : PySem.W.Frag) (g : DG) : TG := fun v σ H Q => ∃ (S0 H0 S : Hp) (env : List (Option T)) (Lf : Nat → List Addr) (t : T) (L : List Addr) (Qd : List (Option T) → Prop), Own K S0 H0 S H σ env Lf ∧ Res K S H v t L ∧ Pend L Lf H0 S H ∧ g t env Qd ∧
  ∀ S' H' σ' env' Lf', Same S S' → Own K S0 H0 S' H' σ' env' Lf' → Qd env' → Q σ' H'
theorem pg_weak {t t' : TG} (h : PG X e t) (k : ∀ v σ H Q, t' v σ H Q → t v σ H Q) : PG X e t' := ⟨fun p s σ H v u Q I r q => h.run p s σ H v u Q I r (k _ _ _ _ q)⟩
def gTg (tg : Tg) : DG := fun t env Q => ∃ env1, tg.put t env = some env1 ∧ Q env1
theorem g_tg {tg : Tg} (h : PG X e (tg.g X.K)) : PG X e (gOf X.K (gTg tg)) := pg_weak h fun v σ H Q ⟨S0, H0, S, env, Lf, t, L, Qd, o, r, p, ⟨env1, h1, h2⟩, hQ⟩ => own_put o r p h1 fun σ' Lf' o' => hQ S H σ' env1 Lf' (.refl _) o' h2
def gX (i : Nat) (bi : BM) : DG := fun t env Q => isOw (nth env i) = true ∧ bi env fun tk env1 => asI tk fun k => match nth env1 i with
  | some (.ow ds) => ∃ j, ixN ds.length k = some j ∧ Q (env1.set i (some (.ow (ds.set j t.d))))
  | _ => False
theorem g_x (i : Nat) {x : Str} {npos : Pos} (hk : PM X e bk) (hN : X.N[i]? = some x := by rfl) (hv : Vis X.env.scope x := by first | exact Or.inl rfl | exact Or.inr (Or.inl rfl) | exact Or.inr (Or.inr rfl)) (hd : (x == ("__debug__" : Str)) = false := by decide)
    (hcd : (x == ("__classdict__" : Str)) = false := by decide)
    (ha : ∀ v, assign (.Subscript (.Name x npos) e pos) X.env v = (do
      let ov ← holding [v] (eval (.Name x npos) X.env)
      let iv ← holding [v, ov] (eval e X.env)
      standAt pos
      holding [v, ov, iv] (setItem ov iv v)
      release [v, ov, iv] []) := by intro _; rfl) : PG X (.Subscript (.Name x npos) e pos) (gOf X.K (gX i bk)) := pg_weak (pg_sub (pe_var hN hv hd hcd) hk set_list ha) fun v σ H Q ⟨S0, H0, S, env, Lf, t, L, Qd, o, r, pe, ⟨hw, hd⟩, hQ⟩ => by
  obtain ⟨p, xs, h1, h2⟩ := isOw_lst o hw
  obtain ⟨o1, a1, e1⟩ := o.shareP r pe
  refine ⟨.ref p, h1, S0, H0, _, env, Lf, _, o1, hd, fun w S1 H1 tk Lk env' Lf' e2 o2 r2 pe2 _ q => ?_⟩
  obtain ⟨k, rfl, q⟩ := asI_res q r2
  cases e3 : nth env' i with
  | none => rw [e3] at q; exact q.elim
  | some u =>
    rw [e3] at q
    cases u with
    | ow ds =>
      obtain ⟨j, hj, q⟩ := q
      obtain ⟨p2, ys, g1, g2, g3, g4, g5⟩ := o2.owAt e3
      rw [h1] at g1
      cases g1
      exact ⟨p, ys, k, j, rfl, rfl, g2, by rw [g3.length]; exact hj, hQ _ _ σ _ Lf' (e1.trans e2) (o2.writeOw g5 h1 g4 (g3.set (a1.mono e2) _)) q⟩
    | _ => exact q.elim
/-- two places, one after the other, by a pair of shared things -/
def gT2 (g1 g2 : DG) : DG := fun t env Q => match t with
  | .sh (.tup [x, y]) => g1 (.sh x) env fun env1 => g2 (.sh y) env1 Q
  | _ => False
theorem g_t2 {g1 g2 : DG} {k : Nat} (hc : X.calm = true) (h1 : PG X a (gOf X.K g1)) (h2 : PG X b (gOf X.K g2)) (hn : (assignEach [a, b] X.env).length = 2 := by rfl) (hst : (assignEach [a, b] X.env).findIdx? (·.1) = none := by rfl)
    (hs1 : (assignEach [a, b] X.env).map (·.2) = assign a X.env :: (assignEach [b] X.env).map (·.2) := by rfl) (hs2 : (assignEach [b] X.env).map (·.2) = assign b X.env :: (assignEach [] X.env).map (·.2) := by rfl) :
    PG X (.Tuple [a, b] k pos) (gOf X.K (gT2 g1 g2)) := pg_weak (pg_tup hc (pgs_cons h1 (pgs_cons h2 pgs_nil hs2) hs1) hn hst) fun v σ H Q ⟨S0, H0, S, env, Lf, t, L, Qd, o, r, p, hg, hQ⟩ => by
  unfold gT2 at hg
  split at hg
  · rename_i x y
    cases r with
    | sh a =>
      cases a with
      | @tup q xs _ hx ha =>
        obtain ⟨vx, vy, rfl, ax, ay⟩ := ats2 ha
        refine ⟨q, _, rfl, same_t o.ext.le hx, rfl, vx, _, rfl, S0, H0, S, env, Lf, _, [], _, o, .sh ax, ⟨List.nodup_nil, fun _ m => by cases m⟩, hg, fun S1 H1 σ1 env1 Lf1 e1 o1 q1 => ?_⟩
        exact ⟨vy, [], rfl, S0, H0, S1, env1, Lf1, _, [], _, o1, .sh (ay.mono e1), ⟨List.nodup_nil, fun _ m => by cases m⟩, q1, fun S2 H2 σ2 env2 Lf2 e2 o2 q2 => ⟨rfl, hQ S2 H2 σ2 env2 Lf2 (e1.trans e2) o2 q2⟩⟩
  · exact hg.elim
def sAsgG (g : DG) (b : BM) : DS := fun De env => b env fun t env1 => g t env1 De.nx
theorem s_asgG {tge : Expr} {g : DG} (h : PM X e bm) (hg : PG X tge (gOf X.K g)) (hs : swapsWithSole [tge] e pos.line X.env = pure false := by rfl) (hw : swappedStores [tge] e X.env = pure none := by rfl)
    (h1 : (assignEach [tge] X.env).map (·.2) = [assign tge X.env] := by rfl) : PSd X (.Assign [tge] e pos) (sAsgG g bm) := ps_weak (ps_asg h hg hs hw h1) fun D σ H ⟨S0, H0, S, env, Lf, De, o, hd, n, b, c, r⟩ =>
  ⟨S0, H0, S, env, Lf, _, o, hd, fun v S' H' t L env' Lf' e o' r' p _ q => ⟨S0, H0, S', env', Lf', t, L, _, o', r', p, q, fun S2 H2 σ2 env2 Lf2 e2 o2 q2 => n S2 H2 σ2 env2 Lf2 (e.trans e2) o2 q2⟩⟩
/-- from here on slot i is shared -/
def shO : Option T → Option T
  | some t => some (.sh t.d)
  | none => none
def sShare (i : Nat) (d : DS) : DS := fun De env => d De (env.set i (shO (nth env i)))
theorem sShare_ref {mg : Str → Option Value} {W : WX} {i : Nat} {d : DS} {D : Ends} (h : sOfW K mg W (sShare i d) D σ H) : sOfW K mg W d D σ H := by
  obtain ⟨S0, H0, S, env, Lf, De, o, hd, n, b, c, r⟩ := h
  cases e : nth env i with
  | none =>
    refine ⟨S0, H0, S, env.set i none, Lf, De, ⟨o.ext, by rw [List.length_set]; exact o.len, fun j u hu => ?_, o.nod, o.dis, o.fr⟩, by unfold sShare at hd; rw [e] at hd; exact hd, n, b, c, r⟩
    rw [nth_set] at hu
    split at hu
    · cases hu
    · exact o.slot j u hu
  | some t =>
    obtain ⟨v, h1, h2⟩ := o.slot i t e
    have hi : i < env.length := by rw [← o.len]; exact (List.getElem?_eq_some_iff.mp h1).1
    have hss := shr_le (L := Lf i) o.ext.le
    have o2 : Own K S0 H0 (shr S H (Lf i)) H σ (env.set i (some (.sh t.d))) (fun j => if j = i then [] else Lf j) := by
      refine ⟨⟨o.ext.s.trans hss, o.ext.h, shr_ge o.ext.le, fun a u h => ?_⟩, by rw [List.length_set]; exact o.len, fun j u hu => ?_, fun j => ?_, fun j k a m1 m2 => ?_, fun j a m => ?_⟩
      · have nn : a ∉ Lf i := fun m => by rw [(o.fr i a m).1] at h; cases h
        rw [shr_out nn]
        exact o.ext.dom a u h
      · rw [nth_set] at hu
        by_cases hj : j = i
        · subst hj
          rw [if_pos ⟨rfl, hi⟩] at hu
          cases hu
          rw [if_pos rfl]
          exact ⟨v, h1, .sh (h2.share hss fun a m => shr_in m)⟩
        · rw [if_neg (fun z => hj z.1)] at hu
          obtain ⟨w, g1, g2⟩ := o.slot j u hu
          rw [if_neg hj]
          exact ⟨w, g1, g2.mono hss fun _ _ => rfl⟩
      · show (if j = i then [] else Lf j).Nodup
        split
        · exact List.nodup_nil
        · exact o.nod j
      · have m1 : a ∈ if j = i then [] else Lf j := m1
        have m2 : a ∈ if k = i then [] else Lf k := m2
        split at m1
        · cases m1
        · split at m2
          · cases m2
          · exact o.dis j k a m1 m2
      · have m : a ∈ if j = i then [] else Lf j := m
        split at m
        · cases m
        · rename_i hj
          obtain ⟨f1, f2, f3⟩ := o.fr j a m
          refine ⟨f1, ?_, f3⟩
          rw [shr_out fun z => hj (o.dis j i a m z)]
          exact f2
    refine ⟨S0, H0, shr S H (Lf i), env.set i (some (.sh t.d)), fun j => if j = i then [] else Lf j, De, o2, by unfold sShare at hd; rw [e] at hd; exact hd, fun S' H' σ' env' Lf' e' => n S' H' σ' env' Lf' (hss.trans e'), fun S' H' σ' env' Lf' e' => b S' H' σ' env' Lf' (hss.trans e'), fun S' H' σ' env' Lf' e' => c S' H' σ' env' Lf' (hss.trans e'), r.1, r.2.step hss⟩
theorem s_share {st : List Stmt} {d : DS} (i : Nat) (h : PSds X st d) : PSds X st (sShare i d) := pss_weak h fun D σ H h => sShare_ref h
end

/-! ### a def by its body -/
def env0 (n : Nat) (ds : List D) : List (Option T) := ds.map (fun d => some (.sh d)) ++ List.replicate (n - ds.length) none
theorem own_start {K : PySem.W.Frag} {S H : Hp} {N : List Str} {vs : List V} {ds : List D} (e : Same S H) (a : Ats K S vs ds) : Own K S H S H (L2.start N vs) (env0 N.length ds) (fun _ => []) := by
  refine ⟨.refl e, by unfold L2.start env0; simp [a.length], fun i t h => ?_, fun _ => List.nodup_nil, fun i j a m n => ?_, fun i a m => ?_⟩
  rotate_left
  · cases m
  · cases m
  rw [nth_get] at h
  have hl := a.length
  have hi : i < ds.length := by
    by_cases hi : i < ds.length
    · exact hi
    · unfold env0 at h
      rw [List.getElem?_append_right (by simp; omega)] at h
      rw [List.getElem?_replicate] at h
      split at h <;> cases h
  unfold env0 at h
  rw [List.getElem?_append_left (by simpa using hi), List.getElem?_map] at h
  have hd : ds[i]? = some ds[i] := by simp [hi]
  rw [hd] at h
  cases h
  obtain ⟨v, h1, h2⟩ := a.get hd
  refine ⟨v, ?_, .sh h2⟩
  unfold L2.start
  rw [List.getElem?_append_left (by rw [List.length_map]; omega), List.getElem?_map, h1]
  rfl
abbrev ends0 (Q : T → Prop) : DEnds := ⟨fun _ => Q (.sh .non), fun t _ => Q t, fun _ => False, fun _ => False, fun _ _ => False⟩
theorem cal_mk {P : Program} {w : PySem.World} {K : PySem.W.Frag} {mg : Str → Option Value} {base : Heap} {x : Str} {params : Arguments} {body : List Stmt} {scope : Scope} {f : Addr} {fd : FuncData} {N ps : List Str} {k : Nat} {sp : SpD} {dt : DS}
    (F : FunD K x x params body scope [] [] f fd) (hm : mg x = some (.ref f)) (b : Binds K fd ps []) (S : FnScope N ps scope) (len : ∀ ds Q, sp ds Q → ds.length = ps.length)
    (hbody : ∀ (cdv : Value) (A : Around) (outer : List PySem.Env) (s : Shared) (H : Hp) (E : XK), Room k (A.deeper (PyProof.Rows.envOfC x scope s.heap.objs.size f cdv)) → PSds (cxOf CX0 P w K mg base N x scope f cdv A outer s H E).nox body dt)
    (hd : ∀ ds Q, sp ds Q → dt (ends0 Q) (env0 N.length ds)) : CalD P w K mg base (k + 1) x sp := by
  refine ⟨f, fd, ps, F.ok S (fun vs H Q E h => ?_) (fun cdv A outer s H vs Q E hr h => ?_), hm, F.kp, b⟩
  · obtain ⟨S', ds, Qd, e, a, h, _⟩ := h
    rw [a.length]
    exact len ds Qd h
  · obtain ⟨S', ds, Qd, e, a, h, k⟩ := h
    refine ⟨sOf _ dt, (hbody cdv A outer s H E hr).nox, ?_⟩
    refine ⟨S', H, S', env0 N.length ds, fun _ => [], ends0 Qd, own_start e a, hd ds Qd h, fun S2 H2 σ2 env2 Lf2 _ o q => ?_, fun _ _ _ _ _ _ _ q => q.elim, fun _ _ _ _ _ _ _ q => q.elim, fun v S2 H2 σ2 env2 Lf2 t L o r p q => k v S2 H2 t (o.out r p) q, fun _ _ _ _ _ _ _ _ _ _ _ q => q.elim⟩
    exact k .non S2 H2 _ ((Out.sh o.ext.le .non).from o.ext) q
/-- a law's promise: any list of ints, True comes out -/
theorem law_of {K : PySem.W.Frag} {sp : SpD} (h : ∀ ns : List Int, ns.length ≤ 63 → sp [.flst (ns.map D.int)] fun t => t = .sh (.bl true)) {H : Hp} {a : Addr} {ns : List Int} (hl : ns.length ≤ 63) (hS : SqL K H a (ns.map V.int)) (E : XK) : spOf K sp [.ref a] H (fun v _ => v = .bl true) E :=
  ⟨H, [.flst (ns.map D.int)], _, .refl _, .cons (.flst hS (Ats.of_ints ns)) .nil, h ns hl, fun v S' H' t o e => by
    subst e
    obtain ⟨_, L, r, _⟩ := o
    cases r with
    | sh a => cases a; rfl⟩
end W

/-! FG: the built-ins' names; stores that share. -/
namespace W
open PySem L2
structure Gs (mg : Str → Option Value) : Prop where
  len : mg "len" = none
  list : mg "list" = none
  range : mg "range" = none
  enumerate : mg "enumerate" = none
  zip : mg "zip" = none
  min : mg "min" = none
  max : mg "max" = none
  sum : mg "sum" = none
  sorted : mg "sorted" = none
  all : mg "all" = none
  isinstance : mg "isinstance" = none
  int : mg "int" = none
  bool : mg "bool" = none
  str : mg "str" = none
  tuple : mg "tuple" = none
  set : mg "set" = none
theorem bt_len : bootBuiltins "len" = some (.builtin "len") := by decide +kernel
theorem bt_list : bootBuiltins "list" = some (.type "list") := by decide +kernel
theorem bt_min : bootBuiltins "min" = some (.builtin "min") := by decide +kernel
theorem bt_max : bootBuiltins "max" = some (.builtin "max") := by decide +kernel
theorem bt_sum : bootBuiltins "sum" = some (.builtin "sum") := by decide +kernel
theorem bt_sorted : bootBuiltins "sorted" = some (.builtin "sorted") := by decide +kernel
theorem bt_all : bootBuiltins "all" = some (.builtin "all") := by decide +kernel
theorem bt_int : bootBuiltins "int" = some (.type "int") := by decide +kernel
theorem bt_bool : bootBuiltins "bool" = some (.type "bool") := by decide +kernel
theorem bt_str : bootBuiltins "str" = some (.type "str") := by decide +kernel
theorem bt_tuple : bootBuiltins "tuple" = some (.type "tuple") := by decide +kernel
theorem bt_set : bootBuiltins "set" = some (.type "set") := by decide +kernel
section
variable {X : Cx} {K : PySem.W.Frag} {a b c e e2 : Expr} {es : List Expr} {be : BT} {bm bk : BM} {pos : Pos} {S0 H0 S H S' H' : Hp} {σ : L2.St} {env : List (Option T)} {Lf : Nat → List Addr} {v : V} {t : T} {L : List Addr}
/-- what is stored is shared -/
def mS (b : BM) : BM := fun env Q => b env fun t env1 => Q (.sh t.d) env1
theorem mS_ref {Q : VK} (h : mOf K (mS bm) σ H Q) : mOf K bm σ H Q := by
  obtain ⟨S0, H0, S, env, Lf, Qd, o, hb, hQ⟩ := h
  refine ⟨S0, H0, S, env, Lf, _, o, hb, fun v S' H' t L env' Lf' e o' r p k q => ?_⟩
  obtain ⟨o2, a2, e2⟩ := o'.shareP r p
  refine hQ v _ H' _ [] env' Lf' (e.trans e2) o2 (.sh a2) ⟨List.nodup_nil, fun _ m => by cases m⟩ (fun a u h n => ?_) q
  obtain ⟨k1, k2, k3, k4⟩ := k a u h n
  exact ⟨k1, (shr_out k3).trans k2, fun m => (by cases m), k4⟩
theorem m_s (h : PM X e bm) : PM X e (mS bm) := pe_weak h fun _ _ _ => mS_ref
theorem s_setLcS {i : Nat} {y : Str} {py spos : Pos} {bi : BI} {tge elt iter : Expr} {ifs : List Expr} {scope : Scope} {own : List (Str × Nat)} {tg : Tg} {bt : BTT} {be : BT} (all : Bool) (hc : X.calm = true) (hN : X.N.Nodup) (hy : X.N[i]? = some y) (hyl : X.env.scope.names.lookup y = some .local)
    (hsw : swapsWith (.ListComp elt [⟨tge, iter, ifs, 0⟩] scope pos) (some (.Name y py)) spos.line X.env = pure true) (hi : PIb X tge iter bi) (ok : BlkOk X.N X.env.scope scope own)
    (hg : ∀ (s : Shared) (H : Hp) (C : Addr) (cl : List (Str × Addr)) (fp : List Addr), PG (X.blk s H scope (compEnvC scope cl C X.env) fp) tge (tg.g X.K)) (ht : ∀ (s : Shared) (H : Hp) (C : Addr) (cl : List (Str × Addr)) (fp : List Addr), PTs (X.blk s H scope (compEnvC scope cl C X.env) fp) ifs (tOf X.K bt))
    (he : ∀ (s : Shared) (H : Hp) (C : Addr) (cl : List (Str × Addr)) (fp : List Addr), PE (X.blk s H scope (compEnvC scope cl C X.env) fp) elt (eOf X.K be)) (hs : ∀ x, foldedSetIterable iter X.env x = pure x := by intro _; rfl) (hj : ∀ j ∈ tg.js, j ∈ own.map (·.2) := by decide) :
    PSd X (.Assign [.Name y py] (.ListComp elt [⟨tge, iter, ifs, 0⟩] scope pos) spos) (sAsg (.n i) (mS (if all then mA (bLc bi tg bt be (own.map (·.2))) else mN (bLc bi tg bt be (own.map (·.2)))))) := ps_weak (ps_setLc hc hN hy hyl hsw hi ok hg ht he hs) fun D σ H h => by
  have h2 := mS_ref (asg_ref h)
  cases all with
  | true => exact lc_ref hj (mA_ref h2)
  | false => exact lc_ref hj (mN_ref h2)
end
end W

/-! FH: slices with a step; lists of lists of ours. -/
namespace W
open PySem L2 PySem.Spec PyProof.Rows
section
variable {α : Type}
/-- xs[lo:hi:c] -/
def stepD (xs : List α) (lo hi : Option Int) (c : Int) : List α :=
  (List.range (Builtin.Slice.slicePlaces (Builtin.Slice.sliceAdjust lo hi c xs.length).1 (Builtin.Slice.sliceAdjust lo hi c xs.length).2 c)).filterMap fun (k : Nat) => xs[((Builtin.Slice.sliceAdjust lo hi c xs.length).1 + (k : Int) * c).toNat]?
def stepL (xs : List α) (lo hi : Option Int) (c : Int) : List α :=
  (sliceRange (sliceBounds lo hi (some c) xs.length).1 (sliceBounds lo hi (some c) xs.length).2.1 (sliceBounds lo hi (some c) xs.length).2.2).filterMap fun k => xs[k]?
end
theorem range_get {α : Type} (xs : List α) : (List.range xs.length).filterMap (fun k => xs[k]?) = xs := by
  induction xs with
  | nil => rfl
  | cons x xs ih =>
    rw [List.length_cons, List.range_succ_eq_map, List.filterMap_cons]
    simp only [List.getElem?_cons_zero, List.filterMap_map]
    have e : ((fun k => (x :: xs)[k]?) ∘ Nat.succ) = fun k => xs[k]? := by funext k; simp
    rw [e, ih]
theorem vals_pick {xs : List V} {us : List Value} (r : Vals xs us) : ∀ (L : List Nat), Vals (L.filterMap fun k => xs[k]?) (L.filterMap fun k => us[k]?)
  | [] => .nil
  | k :: L => by
    rw [List.filterMap_cons, List.filterMap_cons]
    cases e : xs[k]? with
    | none =>
      rw [r.none_of e]
      exact vals_pick r L
    | some x =>
      obtain ⟨u, h1, h2⟩ := r.get e
      rw [h1]
      exact .cons h2 (vals_pick r L)
section
variable {K : PySem.W.Frag}
theorem Ats.pick {S : Hp} {ds : List D} {vs : List V} (a : Ats K S vs ds) : ∀ (L : List Nat), Ats K S (L.filterMap fun k => vs[k]?) (L.filterMap fun k => ds[k]?)
  | [] => .nil
  | k :: L => by
    rw [List.filterMap_cons, List.filterMap_cons]
    cases e : ds[k]? with
    | none =>
      have h := List.getElem?_eq_none_iff.mp e
      rw [List.getElem?_eq_none_iff.mpr (by rw [a.length]; exact h)]
      exact Ats.pick a L
    | some d =>
      obtain ⟨v, h1, h2⟩ := a.get e
      rw [h1]
      exact .cons h2 (Ats.pick a L)
end
theorem pick_map {α : Type} (xs : List α) (n : Nat) (f : Nat → Nat) : ((List.range n).filterMap fun k => xs[f k]?) = ((List.range n).map f).filterMap fun k => xs[k]? := by
  rw [List.filterMap_map]; rfl
section
variable {prog : Program} {w : PySem.World} {A : Around} {E : Value → Shared → Prop} {s : Shared}
theorem applied_step {sl : Addr} {vl vu vs : Value} {lo hi : Option Int} {c : Int} {n : Nat} {Q : Int × Int × Nat → Shared → Prop} (hs : s.heap.IsSliceOf sl vl vu vs) (pl : IsPart vl lo) (pu : IsPart vu hi) (ps : IsPart vs (some c)) (hc : c ≠ 0)
    (h : Q ((Builtin.Slice.sliceAdjust lo hi c n).1, c, Builtin.Slice.slicePlaces (Builtin.Slice.sliceAdjust lo hi c n).1 (Builtin.Slice.sliceAdjust lo hi c n).2 c) s) : wpAny (model prog w) A (Builtin.Slice.sliceApplied (.ref sl) (pure (n : Int))) Q E s := by
  obtain ⟨os, hos, hcs, hds⟩ := id hs
  unfold Builtin.Slice.sliceApplied Builtin.Slice.sliceFields
  refine wpAny_bind (wpAny_bind (wpAny_field hos hds (x := vl) rfl (wpAny_bind (wpAny_field hos hds (x := vu) rfl (wpAny_bind (wpAny_field hos hds (x := vs) rfl (wpAny_pure ?_)))))))
  refine wpAny_bind (HT.slicePart_ ps ?_)
  show wpAny _ _ (if (c == 0) = true then _ else _) _ _ s
  rw [if_neg (by simpa using hc)]
  refine wpAny_bind (HT.slicePart_ pl (wpAny_bind (HT.slicePart_ pu (wpAny_bind (wpAny_pure ?_)))))
  exact wpAny_pure h
theorem getItem_tuple_step {t sl : Addr} {items : Array Value} {vl vu vs : Value} {lo hi : Option Int} {c : Int} {Q : Value → Shared → Prop} (ht : IsTup s.heap t items) (hs : s.heap.IsSliceOf sl vl vu vs) (pl : IsPart vl lo) (pu : IsPart vu hi) (ps : IsPart vs (some c)) (hc : c ≠ 0)
    (hw : (Builtin.Slice.sliceAdjust lo hi c items.size).1 = 0 ∧ c = 1 ∧ Builtin.Slice.slicePlaces (Builtin.Slice.sliceAdjust lo hi c items.size).1 (Builtin.Slice.sliceAdjust lo hi c items.size).2 c = items.size → Q (.ref t) s)
    (h : Q (.ref s.heap.objs.size) { s with heap := s.heap.push { cls := .type "tuple", data := .seq (stepD items.toList lo hi c).toArray } })
    (hsz : (stepD items.toList lo hi c).length ≤ sizeLine) : wpAny (model prog w) A (getItem (.ref t) (.ref sl)) Q E s := by
  have htake : sizeOk (.seq (stepD items.toList lo hi c).toArray) := by
    show (stepD items.toList lo hi c).toArray.size ≤ sizeLine
    rw [List.size_toArray]; exact hsz
  obtain ⟨os, hos, hcs, hds⟩ := id hs
  have hTs : s.TypeIs (.ref sl) "slice" := ⟨os, hos, hcs⟩
  unfold getItem
  try with_reducible refine wpAny_holding ?_
  first | refine wpAny_bind (wpAny_pure ?_) | skip
  refine wpAny_bind (wpAny_sequenceKey ht.typeIs (by decide) ?_)
  refine wpAny_bind (wpAny_callSpecial?_slot (name := Str.ofString "__getitem__") ht.typeIs PyProof.Rows.slot_tuple_getitem
    (wpAny_call_entry PyProof.Rows.slot_tuple_getitem ht.typeIs entry_tuple_getitem ?_ (args_tuple_getitem _ _)))
  show wpAny _ _ (Builtin.Tuple.tupleItemsOf (.ref t) >>= _) _ _ s
  refine wpAny_bind (tupleItemsOf_ ht ?_)
  refine wpAny_bind (wpAny_typeOf hTs ?_)
  rw [if_pos (by decide)]
  refine wpAny_bind (applied_step hs pl pu ps hc ?_)
  show wpAny _ _ (if ((Builtin.Slice.sliceAdjust lo hi c items.size).1 == 0 && c == 1 && Builtin.Slice.slicePlaces (Builtin.Slice.sliceAdjust lo hi c items.size).1 (Builtin.Slice.sliceAdjust lo hi c items.size).2 c == items.size) = true then _ else _) _ _ s
  by_cases q : ((Builtin.Slice.sliceAdjust lo hi c items.size).1 == 0 && c == 1 && Builtin.Slice.slicePlaces (Builtin.Slice.sliceAdjust lo hi c items.size).1 (Builtin.Slice.sliceAdjust lo hi c items.size).2 c == items.size) = true
  · rw [if_pos q]
    have q2 := q
    simp only [Bool.and_eq_true, beq_iff_eq] at q2
    have hq := hw ⟨q2.1.1, q2.1.2, q2.2⟩
    refine wpAny_bind ?_
    show wpAny _ _ (typeOf (.ref t) >>= fun T => pure (T == .type "tuple")) _ _ s
    refine wpAny_bind (wpAny_typeOf ht.typeIs (wpAny_pure ?_))
    first
      | rw [if_pos (by decide)]
      | simp only [beq_self_eq_true, if_true]
    first
      | exact wpAny_bind (wpAny_rule (wpAny_pure ⟨_, rfl, wpAny_pure hq⟩))
      | exact wpAny_bind (wpAny_rule (wpAny_bind (wpAny_pure (wpAny_pure ⟨_, rfl, wpAny_pure hq⟩))))
  · rw [if_neg q]
    have e : ((List.range (Builtin.Slice.slicePlaces (Builtin.Slice.sliceAdjust lo hi c items.size).1 (Builtin.Slice.sliceAdjust lo hi c items.size).2 c)).filterMap fun (k : Nat) => items[((Builtin.Slice.sliceAdjust lo hi c items.size).1 + (k : Int) * c).toNat]?).toArray = (stepD items.toList lo hi c).toArray := by
      unfold stepD
      rw [Array.length_toList]
      congr 2
      funext k
      rw [Array.getElem?_toList]
    rw [e]
    first
      | exact wpAny_bind (m := Builtin.Tuple.tupleExact _) (wpAny_newObj_type (wpAny_pure ⟨_, rfl, wpAny_pure h⟩) htake)
      | exact wpAny_bind (m := Builtin.Tuple.tupleExact _) (wpAny_newObj_type (wpAny_bind (wpAny_pure (wpAny_pure ⟨_, rfl, wpAny_pure h⟩))) htake)
      | exact wpAny_bind (wpAny_bind (m := Builtin.Tuple.tupleExact _) (wpAny_newObj_type (wpAny_pure (wpAny_pure ⟨_, rfl, wpAny_pure h⟩)) htake))
      | exact wpAny_bind (wpAny_bind (m := Builtin.Tuple.tupleExact _) (wpAny_newObj_type (wpAny_pure ⟨_, rfl, wpAny_pure h⟩) htake))
end
section
variable {X : Cx} {K : PySem.W.Frag} {e f : Expr} {be bs : BT} {pos p2 : Pos} {lo hi : Option Expr} {te tf : TE} {tl th : TO}
def rSlS (K : PySem.W.Frag) (x : V) (lo hi : Option Int) (c : Int) (H : Hp) (Q : VK) : Prop := c ≠ 0 ∧
  ((∃ a xs, x = .ref a ∧ SqL K H a xs ∧ ∀ p, H p = none → Q (.ref p) (upd H p (.lst (stepL xs lo hi c)))) ∨
   (∃ a xs, x = .ref a ∧ SqT K H a xs ∧ (stepD xs lo hi c).length ≤ sizeLine ∧ (stepD xs lo hi c = xs → Q (.ref a) H) ∧ ∀ p, H p = none → Q (.ref p) (upd H p (.tup (stepD xs lo hi c)))))
def tSlS (K : PySem.W.Frag) (te : TE) (tl th : TO) (tf : TE) : TE := fun σ H Q => te σ H fun x H1 => tl σ H1 fun l H2 => th σ H2 fun u H3 => tf σ H3 fun y H4 => ∃ c, y = .int c ∧ rSlS K x l u c H4 Q
theorem stepL_len {α : Type} (xs : List α) (lo hi : Option Int) (c : Int) (hc : c ≠ 0) (us : List Value) (h : xs.length = us.length) : (stepL xs lo hi c).length = (slicePick us.toArray lo hi (some c)).size := by
  unfold stepL slicePick
  rw [List.size_toArray, h]
  have key : ∀ L : List Nat, (L.filterMap fun k => xs[k]?).length = (L.filterMap fun k => us.toArray[k]?).length := by
    intro L
    induction L with
    | nil => rfl
    | cons k L ih =>
      rw [List.filterMap_cons, List.filterMap_cons]
      by_cases hk : k < xs.length
      · have h1 : xs[k]? = some xs[k] := by simp [hk]
        have h2 : us.toArray[k]? = some (us[k]'(by omega)) := by simp [show k < us.length by omega]
        rw [h1, h2]
        simp [ih]
      · have h1 : xs[k]? = none := by simp; omega
        have h2 : us.toArray[k]? = none := by simp; omega
        rw [h1, h2]
        exact ih
  rw [List.size_toArray]
  exact key _
theorem pe_sliceS (he : PE X e te) (hl : PO X lo tl) (hu : PO X hi th) (hf : PE X f tf) : PE X (.Subscript e (.Slice lo hi (some f) p2) pos) (tSlS X.K te tl th tf) := by
  refine ⟨fun pins s σ H Q I h => ?_⟩
  refine Subscript_ (thn (he.run pins s σ H _ I h) fun v s1 ⟨x, H1, I1, r1, q1⟩ => ?_)
  refine wpAny_Slice (thn (hl.run pins s1 σ H1 _ I1 q1) fun vl s2 ⟨l, H2, I2, pl, q2⟩ => thn (hu.run pins s2 σ H2 _ I2 q2) fun vu s3 ⟨u, H3, I3, pu, q3⟩ => ?_)
  refine thn ((po_some hf).run pins s3 σ H3 (fun o H4 => ∃ c, o = some c ∧ rSlS X.K x l u c H4 Q) I3 ?_) fun vs s4 ⟨o, H4, I4, ps, c, eo, hc, q4⟩ => ?_
  · show tf σ H3 fun x1 H1 => ∃ i, x1 = .int i ∧ ∃ c, some i = some c ∧ rSlS X.K x l u c H1 Q
    have : (fun (x1 : V) (H1 : Hp) => ∃ i, x1 = .int i ∧ ∃ c, some i = some c ∧ rSlS X.K x l u c H1 Q) = fun y H4 => ∃ c, y = .int c ∧ rSlS X.K x l u c H4 Q := by
      funext y H4
      apply propext
      constructor
      · rintro ⟨i, rfl, c, hc, h⟩; cases hc; exact ⟨i, rfl, h⟩
      · rintro ⟨i, rfl, h⟩; exact ⟨i, rfl, i, rfl, h⟩
    rw [this]
    exact q3
  · subst eo
    have I5 : Inv X pins σ H4 { s4 with heap := s4.heap.push { cls := .type "slice", data := .fields #[vl, vu, vs] } } := I4.kept (t' := s4.toks) fun b ob q => Heap.get?_push_of_some _ q
    show wpAny (model X.prog X.w) X.A (subscriptTail e (.Slice lo hi (some f) p2) v (.ref s4.heap.objs.size)) (EP X pins σ Q) X.xe { s4 with heap := s4.heap.push { cls := .type "slice", data := .fields #[vl, vu, vs] } }
    rcases q4 with ⟨a, xs, rfl, hx, q⟩ | ⟨a, xs, rfl, hx, hz2, q0, q⟩
    · cases r1
      obtain ⟨its, r, ht, hz⟩ := I5.list hx
      have hlen := r.length
      refine tail_any (ops := [.ref a, .ref s4.heap.objs.size]) ht.isList.typeIs (PySem.slot_list_getitem.lookup) ?_ (by with_unfolding_all rfl)
      refine wpAny_getItem_list_slice ht.isList (Heap.IsSliceOf.new _ vl vu vs) pl pu ps (by simpa using hc) ?_ (by rw [List.size_toArray]; omega)
      have e1 : slicePick its.toArray l u (some c) = (stepL its l u c).toArray := by
        unfold slicePick stepL
        rw [List.size_toArray]
        congr 2
        funext k
        simp
      have rr : Vals (stepL xs l u c) (stepL its l u c) := by
        unfold stepL
        rw [hlen]
        exact vals_pick r _
      rw [e1]
      refine ⟨.ref _, _, I5.laid (t' := s4.toks) (o := .lst (stepL xs l u c)) (fun b ob q => Heap.get?_push_of_some _ q) (Nat.le_refl _) ?_, rfl, q _ (I5.hok.fresh (Nat.le_refl _))⟩
      refine ⟨?_, _, 0, rr, Heap.get?_push_size _ rfl⟩
      rw [stepL_len xs l u c hc its hlen]
      have h7 := slicePick_size_le its.toArray l u (some c)
      have h8 : its.toArray.size = its.length := List.size_toArray ..
      omega
    · cases r1
      obtain ⟨its, r, ht, hz⟩ := I5.tuple hx
      have hlen := r.length
      have rr : Vals (stepD xs l u c) (stepD its l u c) := by
        unfold stepD
        rw [hlen, pick_map its, pick_map xs]
        exact vals_pick r _
      refine tail_any (ops := [.ref a, .ref s4.heap.objs.size]) ht.typeIs (PyProof.Rows.slot_tuple_getitem.lookup) ?_ (by with_unfolding_all rfl)
      refine getItem_tuple_step ht (Heap.IsSliceOf.new _ vl vu vs) pl pu ps hc (fun hw => ?_) ?_ (by show (stepD its l u c).length ≤ sizeLine; rw [← rr.length]; exact hz2)
      · have e2 : stepD xs l u c = xs := by
          obtain ⟨h1, h2, h3⟩ := hw
          rw [List.size_toArray, ← hlen] at h1 h3
          unfold stepD
          rw [h3, h1, h2]
          apply List.ext_getElem?
          intro i
          have e3 : ((List.range xs.length).filterMap fun (k : Nat) => xs[((0 : Int) + (k : Int) * 1).toNat]?) = xs := by
            have e4 : (fun (k : Nat) => xs[((0 : Int) + (k : Int) * 1).toNat]?) = fun k => xs[k]? := by
              funext k
              congr 1
              omega
            rw [e4]
            exact range_get xs
          rw [e3]
        exact ⟨.ref a, H4, I5, rfl, q0 e2⟩
      · refine ⟨.ref _, _, I5.laid (t' := s4.toks) (o := .tup (stepD xs l u c)) (fun b ob q => Heap.get?_push_of_some _ q) (Nat.le_refl _) ?_, rfl, q _ (I5.hok.fresh (Nat.le_refl _))⟩
        exact ⟨hz2, _, rr, IsTup.new _ _⟩
def fSlS (d : D) (lo hi : Option Int) (c : Int) (Q : T → Prop) : Prop := c ≠ 0 ∧ match d with
  | .lst ds => Q (.ow (stepL ds lo hi c))
  | .tup ds => (stepD ds lo hi c).length ≤ 100000 ∧ Q (.sh (.tup (stepD ds lo hi c)))
  | _ => False
def bSlS (b : BT) (l h : BO) (s : BT) : BT := fun env Q => b env fun t => l env fun lo => h env fun hi => s env fun ts => asI ts fun c => fSlS t.d lo hi c Q
theorem Ats.stepD {S : Hp} {ds : List D} {vs : List V} (a : Ats K S vs ds) (lo hi : Option Int) (c : Int) : Ats K S (stepD vs lo hi c) (W.stepD ds lo hi c) := by
  unfold W.stepD
  rw [a.length, pick_map ds, pick_map vs]
  exact a.pick _
theorem Ats.stepL {S : Hp} {ds : List D} {vs : List V} (a : Ats K S vs ds) (lo hi : Option Int) (c : Int) : Ats K S (stepL vs lo hi c) (W.stepL ds lo hi c) := by
  unfold W.stepL
  rw [a.length]
  exact a.pick _
theorem b_sliceS {l h : BO} (he : PB X e be) (hl : PO X lo (oOf X.K l)) (hh : PO X hi (oOf X.K h)) (hf : PB X f bs) : PB X (.Subscript e (.Slice lo hi (some f) p2) pos) (bSlS be l h bs) :=
  pe_weak (pe_sliceS he hl hh hf) fun σ H Q ⟨S, env, Qd, hS, hE, hb, hQ⟩ => by
  refine ⟨S, env, _, hS, hE, hb, fun v S1 H1 t1 O1 q1 => ?_⟩
  obtain ⟨S2, e2, _, a2⟩ := O1.share
  refine ⟨S2, env, _, e2.le, hE.mono e2.s, q1, fun o1 S3 H3 e3 q3 => ?_⟩
  have e23 := e2.trans e3
  refine ⟨S3, env, _, e3.le, hE.mono e23.s, q3, fun o2 S4 H4 e4 q4 => ?_⟩
  have e24 := e23.trans e4
  refine ⟨S4, env, _, e4.le, hE.mono e24.s, q4, fun y S5 H5 t5 O5 q5 => ?_⟩
  obtain ⟨c, rfl, hc, q6⟩ := asI_at q5
  obtain ⟨S6, e6, _, a6⟩ := O5.share
  cases a6
  have a4 := a2.mono (e3.s.trans (e4.s.trans e6.s))
  have e26 := e24.trans e6
  refine ⟨c, rfl, hc, ?_⟩
  generalize hd : t1.d = d at a4 q6
  cases a4 with
  | @lst p xs ds hp ha => exact .inl ⟨p, xs, rfl, .inl (.inl (e6.le _ _ hp)), fun r hr => hQ _ _ _ _ ((Out.ow e6.le hr (ha.stepL _ _ _)).from e26) q6⟩
  | @tup p xs ds hp ha =>
    have hl : (stepD xs o1 o2 c).length = (stepD ds o1 o2 c).length := (ha.stepD o1 o2 c).length
    refine .inr ⟨p, xs, rfl, same_t e6.le hp, by rw [hl]; exact line_le q6.1, fun e => ?_, fun r hr => hQ _ _ _ _ ((Out.tup e6.le hr (ha.stepD _ _ _)).from e26) q6.2⟩
    have ha2 := ha.stepD o1 o2 c
    rw [e] at ha2
    exact hQ _ _ _ _ ((Out.sh e6.le (.tup hp ha2)).from e26) q6.2
  | _ => exact q6.elim
end
end W

/-! FI: lists of lists of ours: append to the outer one, to an inner one; pairs of what is ours handed back. -/
namespace W
open PySem L2
section
variable {X : Cx} {K : PySem.W.Frag} {a b c e e2 : Expr} {es : List Expr} {be : BT} {bm bk : BM} {pos : Pos} {S0 H0 S H S' H' : Hp} {σ : L2.St} {env : List (Option T)} {Lf : Nat → List Addr} {v : V} {t : T} {L : List Addr}
/-- a list of ours is written, what it holds may be ours (pending till now) -/
theorem Own.writeP {i : Nat} {p : Addr} {xs ys : List V} {ts : List T} {L M : List Addr} (o : Own K S0 H0 S H σ env Lf) (hi : i < env.length) (hv : σ[i]? = some (some (.ref p))) (hL : Lf i = p :: L) (pe : Pend M Lf H0 S H) (r : Ress K S H ys ts (L ++ M)) :
    Own K S0 H0 S (upd H p (.lst ys)) σ (env.set i (some (.ows ts))) (fun j => if j = i then p :: (L ++ M) else Lf j) := by
  have hp : p ∈ Lf i := by rw [hL]; simp
  have hpM : p ∉ M := fun m => (pe.2 p m).1 i hp
  have hnd := o.nod i
  rw [hL] at hnd
  have hpL : p ∉ L := (List.nodup_cons.mp hnd).1
  have sub : ∀ j a, a ∈ (if j = i then p :: (L ++ M) else Lf j) → a ∈ Lf j ∨ (j = i ∧ a ∈ M) := fun j a m => by
    split at m
    · rename_i z
      subst z
      rw [hL]
      rcases List.mem_cons.mp m with m | m
      · exact .inl (by rw [m]; simp)
      · rcases List.mem_append.mp m with m | m
        · exact .inl (List.mem_cons_of_mem _ m)
        · exact .inr ⟨rfl, m⟩
    · exact .inl m
  obtain ⟨f1, f2, zs, f3⟩ := o.fr i p hp
  refine ⟨⟨o.ext.s, fun a u h => ?_, fun a u h => ?_, o.ext.dom⟩, by rw [List.length_set]; exact o.len, fun j u hu => ?_, fun j => ?_, fun j k a m1 m2 => ?_, fun j a m => ?_⟩
  · have : a ≠ p := fun z => by subst z; rw [f1] at h; cases h
    rw [upd_ne this]; exact o.ext.h a u h
  · have : a ≠ p := fun z => by subst z; rw [f2] at h; cases h
    rw [upd_ne this]; exact o.ext.le a u h
  · rw [nth_set] at hu
    by_cases hji : j = i
    · subst hji
      rw [if_pos ⟨rfl, hi⟩] at hu
      cases hu
      rw [if_pos rfl]
      refine ⟨_, hv, .ows upd_same (r.mono (.refl _) fun a m => upd_ne fun z => ?_)⟩
      subst z
      rcases List.mem_append.mp m with m | m
      · exact hpL m
      · exact hpM m
    · rw [if_neg (fun z => hji z.1)] at hu
      obtain ⟨w, h1, h2⟩ := o.slot j u hu
      rw [if_neg hji]
      exact ⟨w, h1, h2.mono (.refl _) fun a m => upd_ne fun z => by subst z; exact hji (o.dis j i a m hp)⟩
  · show (if j = i then p :: (L ++ M) else Lf j).Nodup
    split
    · refine List.nodup_cons.mpr ⟨fun m => (List.mem_append.mp m).elim hpL hpM, List.nodup_append.mpr ⟨(List.nodup_cons.mp hnd).2, pe.1, fun a m1 b m2 z => ?_⟩⟩
      subst z
      exact (pe.2 a m2).1 i (by rw [hL]; exact List.mem_cons_of_mem _ m1)
    · exact o.nod j
  · rcases sub j a m1 with m1 | ⟨z1, m1⟩ <;> rcases sub k a m2 with m2 | ⟨z2, m2⟩
    · exact o.dis j k a m1 m2
    · exact ((pe.2 a m2).1 j m1).elim
    · exact ((pe.2 a m1).1 k m2).elim
    · rw [z1, z2]
  · rcases sub j a m with m | ⟨_, m⟩
    · obtain ⟨g1, g2, ws, g3⟩ := o.fr j a m
      refine ⟨g1, g2, ?_⟩
      by_cases z : a = p
      · subst z; exact ⟨.lst ys, upd_same⟩
      · rw [upd_ne z]; exact ⟨ws, g3⟩
    · obtain ⟨_, g1, g2, ws, g3⟩ := pe.2 a m
      refine ⟨g1, g2, ws, ?_⟩
      have ne : a ≠ p := fun z => hpM (by rw [← z]; exact m)
      rw [upd_ne ne]
      exact g3
/-- x.append(e), x a list of things of which some are ours -/
def sAppT (i : Nat) (b : BM) : DS := fun De env => isOw (nth env i) = true ∧ b env fun t env1 => match nth env1 i with
  | some (.ows ts) => ts.length < 100000 ∧ De.nx (env1.set i (some (.ows (ts ++ [t]))))
  | _ => False
theorem s_appT (i : Nat) {x : Str} {npos apos cpos : Pos} (hm : PM X e bm) (hN : X.N[i]? = some x := by rfl) (hv : Vis X.env.scope x := by first | exact Or.inl rfl | exact Or.inr (Or.inl rfl) | exact Or.inr (Or.inr rfl)) (hd : (x == ("__debug__" : Str)) = false := by decide)
    (hcd : (x == ("__classdict__" : Str)) = false := by decide) (hbase : attributeBase (.Name x npos) "append" X.env (eval (.Name x npos) X.env) = eval (.Name x npos) X.env := by rfl)
    (hfew : ((backTo cpos (starEach [e] X.env)).all (fun x => !x.1) && (backToKw cpos (keywordEach [] X.env)).all (fun x => x.1.isSome) && decide (([e] : List Expr).length + ([] : List Keyword).length + (if ([] : List Keyword).isEmpty then 0 else 1) < 30)) = true := by rfl)
    (hline : (apos.endLine == cpos.line) = true := by rfl) (hs : starEach [e] X.env = (false, eval e X.env) :: starEach [] X.env := by rfl) (hplain : (backTo cpos (starEach [] X.env)).any (·.1) = false := by rfl) :
    PSd X (.Expr (.Call (.Attribute (.Name x npos) "append" apos) [e] [] cpos) pos) (sAppT i bm) :=
  ps_weak (ps_expr (pe_bm PySem.F.plainAttrs_list PySem.F.slot_list_append PySem.F.type_list_append mt_append (pe_var hN hv hd hcd) (pa_cons hm pa_nil hs) hbase hfew hline hs hplain) rfl) fun D σ H ⟨S0, H0, S, env, Lf, De, o, ⟨hw, hd⟩, n, b, c, r⟩ => by
  obtain ⟨p, xs, h1, h2⟩ := isOw_lst o hw
  refine ⟨.ref p, h1, .inl ⟨rfl, xs, .inl (.inl h2)⟩, S0, H0, S, env, Lf, _, o, hd, fun v S' H' t L env' Lf' e o' r' pe _ q => ?_⟩
  cases e3 : nth env' i with
  | none => rw [e3] at q; exact q.elim
  | some u =>
    rw [e3] at q
    cases u with
    | ows ts =>
      obtain ⟨p2, ys, L2, g1, g2, g3, g4, g5⟩ := o'.owsAt e3
      rw [h1] at g1
      cases g1
      refine ⟨p, ys, v, rfl, rfl, g2, by rw [g3.length]; exact lt_line q.1, ?_⟩
      have r2 : Ress X.K S' H' (ys ++ [v]) (ts ++ [t]) (L2 ++ L) := by
        have := g3.append (.cons r' .nil)
        rwa [List.append_nil] at this
      exact n _ _ σ _ _ e (o'.writeP (xs := ys) g5 h1 g4 pe r2) q.2
    | _ => exact q.elim
theorem ress_at : ∀ {ts : List T} {vs : List V} {L : List Addr} {k : Nat} {us : List D}, Ress K S H vs ts L → ts[k]? = some (.ow us) → ∃ q xs, vs[k]? = some (.ref q) ∧ q ∈ L ∧ H q = some (.lst xs) ∧ Ats K S xs us ∧
    (L.Nodup → ∀ ys ds, Ats K S ys ds → Ress K S (upd H q (.lst ys)) vs (ts.set k (.ow ds)) L)
  | [], _, _, _, _, _, e => by simp at e
  | t :: ts, _, _, 0, us, .cons h r, e => by
    simp at e
    subst e
    cases h with
    | @ow q xs _ hp ha =>
      refine ⟨q, xs, rfl, by simp, hp, ha, fun nd ys ds a => ?_⟩
      have nd2 : q ∉ _ := (List.nodup_cons.mp nd).1
      exact .cons (.ow upd_same a) (r.mono (.refl _) fun b m => upd_ne fun z => nd2 (z ▸ m))
  | t :: ts, _, _, k + 1, us, .cons (L := L1) (M := L2) h r, e => by
    obtain ⟨q, xs, h1, h2, h3, h4, h5⟩ := ress_at (k := k) r (by simpa using e)
    refine ⟨q, xs, by simpa using h1, List.mem_append_right _ h2, h3, h4, fun nd ys ds a => ?_⟩
    have nd2 := List.nodup_append.mp nd
    exact .cons (h.mono (.refl _) fun b m => upd_ne fun z => nd2.2.2 b m b (z ▸ h2) rfl) (h5 nd2.2.1 ys ds a)
/-- some list within slot i is written -/
theorem Own.writeAt {i : Nat} {q : Addr} {ys : List V} (o : Own K S0 H0 S H σ env Lf) (hi : i < env.length) (hv : σ[i]? = some (some v)) (hq : q ∈ Lf i) (r : Res K S (upd H q (.lst ys)) v t (Lf i)) : Own K S0 H0 S (upd H q (.lst ys)) σ (env.set i (some t)) Lf := by
  have ne : ∀ j a, a ∈ Lf j → j ≠ i → a ≠ q := fun j a m z w => by subst w; exact z (o.dis j i a m hq)
  obtain ⟨f1, f2, zs, f3⟩ := o.fr i q hq
  refine ⟨⟨o.ext.s, fun a u h => ?_, fun a u h => ?_, o.ext.dom⟩, by rw [List.length_set]; exact o.len, fun j u hu => ?_, o.nod, o.dis, fun j a m => ?_⟩
  · have : a ≠ q := fun z => by subst z; rw [f1] at h; cases h
    rw [upd_ne this]; exact o.ext.h a u h
  · have : a ≠ q := fun z => by subst z; rw [f2] at h; cases h
    rw [upd_ne this]; exact o.ext.le a u h
  · rw [nth_set] at hu
    by_cases hji : j = i
    · subst hji
      rw [if_pos ⟨rfl, hi⟩] at hu
      cases hu
      exact ⟨_, hv, r⟩
    · rw [if_neg (fun z => hji z.1)] at hu
      obtain ⟨w, h1, h2⟩ := o.slot j u hu
      exact ⟨w, h1, h2.mono (.refl _) fun a m => upd_ne (ne j a m hji)⟩
  · obtain ⟨g1, g2, ws, g3⟩ := o.fr j a m
    refine ⟨g1, g2, ?_⟩
    by_cases z : a = q
    · subst z; exact ⟨.lst ys, upd_same⟩
    · rw [upd_ne z]; exact ⟨ws, g3⟩
/-- x[k].append(e) -/
def sAppAt (i : Nat) (bk : BM) (be : BT) : DS := fun De env => isOw (nth env i) = true ∧ bk env fun tk env1 => asI tk fun k => match nth env1 i with
  | some (.ows ts) => ∃ j us, ixN ts.length k = some j ∧ ts[j]? = some (.ow us) ∧ us.length < 100000 ∧ be (hide env1) fun t => De.nx (env1.set i (some (.ows (ts.set j (.ow (us ++ [t.d]))))))
  | _ => False
theorem s_appAt (i : Nat) {x : Str} {npos spos apos cpos : Pos} (hk : PM X c bk) (hm : PB X e be) (hN : X.N[i]? = some x := by rfl) (hv : Vis X.env.scope x := by first | exact Or.inl rfl | exact Or.inr (Or.inl rfl) | exact Or.inr (Or.inr rfl)) (hd : (x == ("__debug__" : Str)) = false := by decide)
    (hcd : (x == ("__classdict__" : Str)) = false := by decide) (hix : PlainIx c := by intro _ _; rfl) (hbase : attributeBase (.Subscript (.Name x npos) c spos) "append" X.env (eval (.Subscript (.Name x npos) c spos) X.env) = eval (.Subscript (.Name x npos) c spos) X.env := by rfl)
    (hfew : ((backTo cpos (starEach [e] X.env)).all (fun x => !x.1) && (backToKw cpos (keywordEach [] X.env)).all (fun x => x.1.isSome) && decide (([e] : List Expr).length + ([] : List Keyword).length + (if ([] : List Keyword).isEmpty then 0 else 1) < 30)) = true := by rfl)
    (hline : (apos.endLine == cpos.line) = true := by rfl) (hs : starEach [e] X.env = (false, eval e X.env) :: starEach [] X.env := by rfl) (hplain : (backTo cpos (starEach [] X.env)).any (·.1) = false := by rfl) :
    PSd X (.Expr (.Call (.Attribute (.Subscript (.Name x npos) c spos) "append" apos) [e] [] cpos) pos) (sAppAt i bk be) :=
  ps_weak (ps_expr (pe_bm PySem.F.plainAttrs_list PySem.F.slot_list_append PySem.F.type_list_append mt_append (pe_ix ix_list (pe_var hN hv hd hcd) hk hix) (pa_cons hm pa_nil hs) hbase hfew hline hs hplain) rfl) fun D σ H ⟨S0, H0, S, env, Lf, De, o, ⟨hw, hd⟩, n, b, c, r⟩ => by
  obtain ⟨p, xs, h1, h2⟩ := isOw_lst o hw
  refine ⟨.ref p, h1, S0, H0, S, env, Lf, _, o, hd, fun w S1 H1 tk Lk env1 Lf1 e1 o1 r1 pe1 _ q => ?_⟩
  obtain ⟨k, rfl, q⟩ := asI_res q r1
  cases e3 : nth env1 i with
  | none => rw [e3] at q; exact q.elim
  | some u =>
    rw [e3] at q
    cases u with
    | ows ts =>
      obtain ⟨j, us, hj, hu, hl, q⟩ := q
      obtain ⟨p2, ys, L2, g1, g2, g3, g4, g5⟩ := o1.owsAt e3
      rw [h1] at g1
      cases g1
      obtain ⟨q2, zs, k1, k2, k3, k4, k5⟩ := ress_at g3 hu
      have at_ : atI ys k = some (.ref q2) := by
        unfold atI
        rw [g3.length, hj]
        exact k1
      refine ⟨p, ys, k, .ref q2, rfl, rfl, .inl (.inl g2), at_, .inl ⟨rfl, zs, .inl (.inl k3)⟩, S1, hide env1, _, o1.ext.le, o1.hid, q, fun v S' H' t O q => ?_⟩
      obtain ⟨ee, L, rr, ff⟩ := O
      obtain ⟨o2, a2, e2⟩ := (o1.grow ee).shareP rr (o1.pend rr ff)
      have g3b : Ress X.K (shr S' H' L) H' ys ts L2 := g3.mono (ee.s.trans e2) fun a m => o1.keepA (i := i) (by rw [g4]; exact List.mem_cons_of_mem _ m) ee.h
      obtain ⟨q3, zs3, m1, m2, m3, m4, m5⟩ := ress_at g3b hu
      rw [k1] at m1
      cases m1
      have nd := o1.nod i
      rw [g4] at nd
      have nd1 := List.nodup_cons.mp nd
      refine ⟨q2, zs, v, rfl, rfl, ee.h _ _ k3, by rw [k4.length]; exact lt_line hl, ?_⟩
      have hne : p ≠ q2 := fun z => nd1.1 (z ▸ k2)
      have key : Own X.K S0 H0 (shr S' H' L) (upd H' q2 (.lst (zs ++ [v]))) σ (env1.set i (some (.ows (ts.set j (.ow (us ++ [t.d])))))) Lf1 := by
        refine o2.writeAt (v := .ref p) g5 h1 (by rw [g4]; exact List.mem_cons_of_mem _ k2) ?_
        rw [g4]
        refine .ows (xs := ys) ?_ (m5 nd1.2 _ _ ((k4.mono (ee.s.trans e2)).append (.cons a2 .nil)))
        rw [upd_ne hne]
        exact ee.h _ _ g2
      exact n _ _ σ _ Lf1 ((e1.trans ee.s).trans e2) key q
    | _ => exact q.elim
/-- (a, b), each taken -/
def mT2 (b1 b2 : BM) : BM := fun env Q => b1 env fun t1 env1 => b2 env1 fun t2 env2 => Q (.tp [t1, t2]) env2
theorem m_t2 {a b : Expr} {b1 b2 : BM} {x1} (h1 : PM X a b1) (h2 : PM X b b2) (hs1 : starEach [a, b] X.env = (false, eval a X.env) :: starEach [b] X.env := by rfl) (hs2 : starEach [b] X.env = (false, eval b X.env) :: starEach [] X.env := by rfl) : PM X (.Tuple [a, b] x1 pos) (mT2 b1 b2) :=
  pe_weak (pe_tup (pa_cons h1 (pa_cons h2 pa_nil hs2) hs1)) fun σ H Q ⟨S0, H0, S, env, Lf, Qd, o, hb, hQ⟩ => by
  refine ⟨S0, H0, S, env, Lf, _, o, hb, fun v1 S1 H1 t1 L1 env1 Lf1 e1 o1 r1 p1 k1 q1 => ?_⟩
  refine ⟨S0, H0, S1, env1, Lf1, _, o1, q1, fun v2 S2 H2 t2 L2 env2 Lf2 e2 o2 r2 p2 k2 q2 => ?_⟩
  refine ⟨by show 2 ≤ sizeLine; decide, fun p hp => ?_⟩
  have hs : S2 p = none := Same.none o2.ext.le hp
  have kk : ∀ a ∈ L1, H2 a = H1 a ∧ S2 a = S1 a ∧ a ∉ L2 ∧ ∀ i, a ∉ Lf2 i := fun a m => by
    obtain ⟨n1, _, _, xs, h⟩ := p1.2 a m
    obtain ⟨z1, z2⟩ := k2 a _ h n1
    exact ⟨z1.trans h.symm, z2⟩
  have r1b : Res X.K S2 H2 v1 t1 L1 := r1.mono e2 fun a m => (kk a m).1
  have ext3 : Ext S2 H2 (upd S2 p (.tup [v1, v2])) (upd H2 p (.tup [v1, v2])) := by
    refine ⟨same_new hs, same_new hp, fun b o h => ?_, fun b o h => upd_ne (ne_of_none h hp)⟩
    by_cases hb : b = p
    · subst hb; rw [upd_same] at h; rw [upd_same]; exact h
    · rw [upd_ne hb] at h; rw [upd_ne hb]; exact o2.ext.le b o h
  have lp : ∀ a ∈ L1 ++ L2, ∃ xs : OM, H2 a = some xs.ho := fun a m => (List.mem_append.mp m).elim (r1b.lst a) (r2.lst a)
  have lne : ∀ a ∈ L1 ++ L2, a ≠ p := fun a m z => by
    subst z
    obtain ⟨xs, h⟩ := lp _ m
    rw [hp] at h; cases h
  refine hQ (.ref p) _ _ (.tp [t1, t2]) (L1 ++ L2) env2 Lf2 (e1.trans (e2.trans (same_new hs))) (o2.grow ext3) ?_ ⟨?_, fun a m => ?_⟩ (fun a u h n => ?_) q2
  · refine .tp (.inl (.inl upd_same)) ?_
    have : Ress X.K S2 H2 [v1, v2] [t1, t2] (L1 ++ (L2 ++ [])) := .cons r1b (.cons r2 .nil)
    rw [List.append_nil] at this
    exact this.mono (same_new hs) fun a m => upd_ne (lne a m)
  · exact List.nodup_append.mpr ⟨p1.1, p2.1, fun a m1 b m2 z => by subst z; exact (kk a m1).2.2.1 m2⟩
  · rw [upd_ne (lne a m), upd_ne (lne a m)]
    rcases List.mem_append.mp m with m | m
    · obtain ⟨z1, z2, z3, z4⟩ := kk a m
      obtain ⟨_, g1, g2, g3⟩ := p1.2 a m
      exact ⟨z4, g1, z2.trans g2, by rw [z1]; exact g3⟩
    · exact p2.2 a m
  · obtain ⟨c1, c2, c3, c4⟩ := k1 a u h n
    obtain ⟨d1, d2, d3, d4⟩ := k2 a u c1 c4
    have hap : a ≠ p := fun z => by subst z; rw [hp] at d1; cases d1
    rw [upd_ne hap, upd_ne hap]
    exact ⟨d1, d2.trans c2, fun m => (List.mem_append.mp m).elim c3 d3, d4⟩
end
end W

/-! FJ: the readings' rows for simp; plain facts of data. -/
namespace W
open PySem L2
section
variable {Q : T → Prop} {env : List (Option T)} {x : Option T} {l : List (Option T)} {n : Nat} {d : D} {ds es : List D} {i j : Int} {s z : Str} {b : Bool} {t : T} {ts : List T}
theorem n0 : nth (x :: l) 0 = x := rfl
theorem n1 : nth (x :: l) (n + 1) = nth l n := rfl
theorem bV_eq {i : Nat} {t : T} (h : nth env i = some t) : bV i env Q = Q (.sh t.d) := by unfold bV; rw [h]
theorem bV0 {t : T} : bV 0 (some t :: l) Q = Q (.sh t.d) := rfl
theorem bV1 {k : Nat} : bV (k + 1) (x :: l) Q = bV k l Q := rfl
theorem mV0 {t : T} {Q : T → List (Option T) → Prop} : mV 0 (some t :: l) Q = Q t (none :: l) := rfl
theorem mV1 {k : Nat} {Q : T → List (Option T) → Prop} : mV (k + 1) (x :: l) Q = mV k l (fun t e => Q t (x :: e)) := by
  unfold mV
  show (match nth l k with | some t => Q t ((x :: l).set (k + 1) none) | none => False) = _
  cases nth l k <;> rfl
theorem bC_eq : bC d env Q = Q (.sh d) := rfl
theorem fI0_eq {g : Int → Int → D} : fI0 g (.int i) (.int j) Q = Q (.sh (g i j)) := rfl
theorem fI_eq {C : Int → Int → Prop} {g : Int → Int → D} : fI C g (.int i) (.int j) Q = (C i j ∧ Q (.sh (g i j))) := rfl
theorem fAdd_i : fAdd (.int i) (.int j) Q = Q (.sh (.int (i + j))) := rfl
theorem fAdd_l : fAdd (.lst ds) (.lst es) Q = (ds.length + es.length ≤ 100000 ∧ Q (.ow (ds ++ es))) := rfl
theorem fAdd_s : fAdd (.str s) (.str z) Q = (s.length + z.length ≤ 100000 ∧ Q (.sh (.str (s ++ z)))) := rfl
theorem fAdd_t : fAdd (.tup ds) (.tup es) Q = (ds ≠ [] ∧ es ≠ [] ∧ ds.length + es.length ≤ 100000 ∧ Q (.sh (.tup (ds ++ es)))) := rfl
theorem fMul_i : fMul (.int i) (.int j) Q = (CMul i j ∧ Q (.sh (.int (i * j)))) := rfl
theorem fMul_l : fMul (.lst ds) (.int j) Q = (-1000 ≤ j ∧ j ≤ 1000 ∧ ds.length * j.toNat ≤ 100000 ∧ Q (.ow (List.replicate j.toNat ds).flatten)) := rfl
theorem fIx_l : fIx (.lst ds) (.int i) Q = ∃ d, atI ds i = some d ∧ Q (.sh d) := rfl
theorem fIx_t : fIx (.tup ds) (.int i) Q = ∃ d, atI ds i = some d ∧ Q (.sh d) := rfl
theorem fIx_s : fIx (.str s) (.int i) Q = (s.length ≤ 100000 ∧ ∃ c, atI s.cps.toList i = some c ∧ Q (.sh (.str ⟨#[c]⟩))) := rfl
theorem fEq_eq {e : D} : fEq d e Q = (d.fine 9 = true ∧ e.fine 9 = true ∧ Q (.sh (.bl (deq d e)))) := rfl
theorem fNe_eq {e : D} : fNe d e Q = (d.fine 9 = true ∧ e.fine 9 = true ∧ Q (.sh (.bl (!deq d e)))) := rfl
theorem asB_eq {Q : Bool → Prop} : asB (.sh (.bl b)) Q = Q b := rfl
theorem asI_eq {Q : Int → Prop} : asI (.sh (.int i)) Q = Q i := rfl
theorem fLen_l : fLen [.lst ds] Q = Q (.sh (.int ds.length)) := rfl
theorem fLen_f : fLen [.flst ds] Q = Q (.sh (.int ds.length)) := rfl
theorem fLen_t : fLen [.tup ds] Q = Q (.sh (.int ds.length)) := rfl
theorem fLen_s : fLen [.str s] Q = (s.length ≤ 100000 ∧ Q (.sh (.int s.length))) := rfl
theorem fList_l : fList [.lst ds] Q = Q (.ow ds) := rfl
theorem fList_f : fList [.flst ds] Q = Q (.ow ds) := rfl
theorem fList_t : fList [.tup ds] Q = Q (.ow ds) := rfl
theorem fTuple_l : fTuple [.lst ds] Q = Q (.sh (.tup ds)) := rfl
theorem fTuple_t : fTuple [.tup ds] Q = Q (.sh (.tup ds)) := rfl
theorem fMax2_i : fMax2 [.int i, .int j] Q = Q (.sh (.int (max i j))) := rfl
theorem fMin2_i : fMin2 [.int i, .int j] Q = Q (.sh (.int (min i j))) := rfl
theorem fSl_l {lo hi : Option Int} : fSl (.lst ds) lo hi Q = Q (.ow (cutD ds lo hi)) := rfl
theorem fSl_f {lo hi : Option Int} : fSl (.flst ds) lo hi Q = Q (.ow (cutD ds lo hi)) := rfl
theorem fSl_s {lo hi : Option Int} : fSl (.str s) lo hi Q = (s.length ≤ 100000 ∧ Q (.sh (.str (cutS s lo hi)))) := rfl
theorem fSlS_l {lo hi : Option Int} {c : Int} : fSlS (.lst ds) lo hi c Q = (c ≠ 0 ∧ Q (.ow (stepL ds lo hi c))) := rfl
theorem fSlS_t {lo hi : Option Int} {c : Int} : fSlS (.tup ds) lo hi c Q = (c ≠ 0 ∧ (stepD ds lo hi c).length ≤ 100000 ∧ Q (.sh (.tup (stepD ds lo hi c)))) := rfl
theorem isN_int {n : Bool} : fIsN n (.int i) .non Q = Q (.sh (.bl n)) := rfl
theorem isN_str {n : Bool} : fIsN n (.str s) .non Q = Q (.sh (.bl n)) := rfl
theorem isN_lst {n : Bool} : fIsN n (.lst ds) .non Q = Q (.sh (.bl n)) := rfl
theorem isN_tup {n : Bool} : fIsN n (.tup ds) .non Q = Q (.sh (.bl n)) := rfl
theorem isN_bl {n : Bool} : fIsN n (.bl b) .non Q = Q (.sh (.bl n)) := rfl
theorem isN_non {n : Bool} : fIsN n .non .non Q = Q (.sh (.bl !n)) := rfl
theorem put_n {j : Nat} : (Tg.n j).put t env = some (env.set j (some t)) := rfl
theorem put_t2 {i j : Nat} {d e : D} : (Tg.t [i, j]).put (.sh (.tup [d, e])) env = some ((env.set i (some (.sh d))).set j (some (.sh e))) := rfl
theorem put_p2 {i j : Nat} {t u : T} : (Tg.t [i, j]).put (.tp [t, u]) env = some ((env.set i (some t)).set j (some u)) := rfl
theorem put_t3 {i j k : Nat} {d e f : D} : (Tg.t [i, j, k]).put (.sh (.tup [d, e, f])) env = some (((env.set i (some (.sh d))).set j (some (.sh e))).set k (some (.sh f))) := rfl
theorem d_sh : (T.sh d).d = d := rfl
theorem d_ow : (T.ow ds).d = .lst ds := rfl
theorem d_tp : (T.tp ts).d = .tup (T.ds ts) := rfl
theorem d_ows : (T.ows ts).d = .lst (T.ds ts) := rfl
theorem ds_n : T.ds [] = [] := rfl
theorem ds_c : T.ds (t :: ts) = t.d :: T.ds ts := rfl
theorem hide_n : hide [] = [] := rfl
theorem hide_sh : hide (some (.sh d) :: l) = some (.sh d) :: hide l := rfl
theorem hide_ow : hide (some (.ow ds) :: l) = none :: hide l := rfl
theorem hide_ows : hide (some (.ows ts) :: l) = none :: hide l := rfl
theorem hide_tp : hide (some (.tp ts) :: l) = none :: hide l := rfl
theorem hide_o : hide (none :: l) = none :: hide l := rfl
theorem wipeE_n : wipeE env [] = env := rfl
theorem wipeE_c {v : Nat} {vs : List Nat} : wipeE env (v :: vs) = (wipeE env vs).set v none := rfl
theorem mkTup_0 : mkTup [] = .sh (.tup []) := rfl
theorem mkTup_1 : mkTup [.sh d] = .sh (.tup [d]) := rfl
theorem mkTup_2 {e : D} : mkTup [.sh d, .sh e] = .sh (.tup [d, e]) := rfl
theorem mkTup_3 {e f : D} : mkTup [.sh d, .sh e, .sh f] = .sh (.tup [d, e, f]) := rfl
theorem mkLst_0 : mkLst [] = .ow [] := rfl
theorem mkLst_1 : mkLst [.sh d] = .ow [d] := rfl
theorem mkLst_2 {e : D} : mkLst [.sh d, .sh e] = .ow [d, e] := rfl
theorem mkLst_3 {e f : D} : mkLst [.sh d, .sh e, .sh f] = .ow [d, e, f] := rfl
theorem mkLst_4 {e f g : D} : mkLst [.sh d, .sh e, .sh f, .sh g] = .ow [d, e, f, g] := rfl
theorem isOw_ow : isOw (some (.ow ds)) = true := rfl
theorem isOw_ows : isOw (some (.ows ts)) = true := rfl
theorem shO_some : shO (some t) = some (.sh t.d) := rfl
theorem shO_none : shO none = none := rfl
theorem clean_sh : (T.sh d).clean = d.clean := rfl
theorem clean_ow : (T.ow ds).clean = D.cleans ds := rfl
theorem clean_i : (D.int i).clean = true := rfl
theorem clean_b : (D.bl b).clean = true := rfl
theorem clean_s : (D.str s).clean = true := rfl
theorem clean_n : D.non.clean = true := rfl
theorem clean_t : (D.tup ds).clean = D.cleans ds := rfl
theorem cleans_n : D.cleans [] = true := rfl
theorem cleans_c : D.cleans (d :: ds) = (d.clean && D.cleans ds) := rfl
theorem fine_i : (D.int i).fine n = true := by cases n <;> rfl
theorem fine_b : (D.bl b).fine n = true := by cases n <;> rfl
theorem fine_n : D.non.fine n = true := by cases n <;> rfl
theorem fine_l : (D.lst ds).fine (n + 1) = D.fines n ds := rfl
theorem fine_t : (D.tup ds).fine (n + 1) = D.fines n ds := rfl
theorem fines_n : D.fines n [] = true := by cases n <;> rfl
theorem fines_c : D.fines n (d :: ds) = (d.fine n && D.fines n ds) := by cases n <;> rfl
theorem fines_map {α : Type} {f : α → D} {xs : List α} (h : ∀ x ∈ xs, (f x).fine n = true) : D.fines n (xs.map f) = true := fines_all.mpr fun d m => by
  obtain ⟨x, hx, rfl⟩ := List.mem_map.mp m
  exact h x hx
theorem cleans_map {α : Type} {f : α → D} : ∀ {xs : List α}, (∀ x ∈ xs, (f x).clean = true) → D.cleans (xs.map f) = true
  | [], _ => rfl
  | x :: xs, h => by
    rw [List.map_cons, cleans_c, h x (by simp), cleans_map fun y m => h y (List.mem_cons_of_mem _ m)] <;> rfl
theorem deq_i : deq (.int i) (.int j) = decide (i = j) := by
  show PyData.eqv (.int i) (.int j) = _
  simp only [PyData.eqv]
  by_cases h : i = j <;> simp [h]
theorem deq_b {c : Bool} : deq (.bl b) (.bl c) = decide (b = c) := by
  show PyData.eqv (.bool b) (.bool c) = _
  cases b <;> cases c <;> simp [PyData.eqv]
theorem deq_s : deq (.str s) (.str z) = decide (s = z) := by
  show PyData.eqv (.str s) (.str z) = _
  simp only [PyData.eqv]
  by_cases h : s = z
  · subst h; simp
  · rw [decide_eq_false h]
    exact beq_eq_false_iff_ne.mpr h
end
def deqs : List D → List D → Bool
  | [], [] => true
  | d :: ds, e :: es => deq d e && deqs ds es
  | _, _ => false
theorem eqvAll_deqs : ∀ (ds es : List D), PyData.eqvAll (D.pys ds) (D.pys es) = deqs ds es
  | [], [] => by simp [D.pys, PyData.eqvAll, deqs]
  | [], _ :: _ => by simp [D.pys, PyData.eqvAll, deqs]
  | _ :: _, [] => by simp [D.pys, PyData.eqvAll, deqs]
  | d :: ds, e :: es => by
    simp only [D.pys, PyData.eqvAll, deqs, eqvAll_deqs ds es]
    rfl
theorem deq_l {ds es : List D} : deq (.lst ds) (.lst es) = deqs ds es := by
  show PyData.eqv (.list (D.pys ds)) (.list (D.pys es)) = _
  simp only [PyData.eqv]
  exact eqvAll_deqs ds es
theorem deq_t {ds es : List D} : deq (.tup ds) (.tup es) = deqs ds es := by
  show PyData.eqv (.tuple (D.pys ds)) (.tuple (D.pys es)) = _
  simp only [PyData.eqv]
  exact eqvAll_deqs ds es
theorem deqs_nn : deqs [] [] = true := rfl
theorem deqs_cc {d e : D} {ds es : List D} : deqs (d :: ds) (e :: es) = (deq d e && deqs ds es) := rfl
theorem deqs_nc {e : D} {es : List D} : deqs [] (e :: es) = false := rfl
theorem deqs_cn {e : D} {es : List D} : deqs (e :: es) [] = false := rfl
theorem deqs_map {α : Type} [DecidableEq α] {f : α → D} (h : ∀ a b, deq (f a) (f b) = decide (a = b)) : ∀ (xs ys : List α), deqs (xs.map f) (ys.map f) = decide (xs = ys)
  | [], [] => by simp [deqs]
  | [], _ :: _ => by simp [deqs]
  | _ :: _, [] => by simp [deqs]
  | x :: xs, y :: ys => by
    rw [List.map_cons, List.map_cons, deqs_cc, h, deqs_map h xs ys, ← Bool.decide_and]
    apply decide_eq_decide.mpr
    simp
section
variable {i : Int} {b : Bool} {s : Str} {ds : List D}
theorem ty_i : (D.int i).ty ≠ "" := by show "int" ≠ ""; decide
theorem tyN_i : ((D.int i).ty ≠ "") = True := eq_true ty_i
theorem isT_i_int : isT (D.int i).ty "int" = true := by show isT "int" "int" = _; decide
theorem isT_i_bool : isT (D.int i).ty "bool" = false := by show isT "int" "bool" = _; decide
theorem isT_i_list : isT (D.int i).ty "list" = false := by show isT "int" "list" = _; decide
theorem isT_i_tuple : isT (D.int i).ty "tuple" = false := by show isT "int" "tuple" = _; decide
theorem isT_i_str : isT (D.int i).ty "str" = false := by show isT "int" "str" = _; decide
theorem ty_b : (D.bl b).ty ≠ "" := by show "bool" ≠ ""; decide
theorem tyN_b : ((D.bl b).ty ≠ "") = True := eq_true ty_b
theorem isT_b_int : isT (D.bl b).ty "int" = true := by show isT "bool" "int" = _; decide
theorem isT_b_bool : isT (D.bl b).ty "bool" = true := by show isT "bool" "bool" = _; decide
theorem isT_b_list : isT (D.bl b).ty "list" = false := by show isT "bool" "list" = _; decide
theorem isT_b_tuple : isT (D.bl b).ty "tuple" = false := by show isT "bool" "tuple" = _; decide
theorem isT_b_str : isT (D.bl b).ty "str" = false := by show isT "bool" "str" = _; decide
theorem ty_n : D.non.ty ≠ "" := by show "NoneType" ≠ ""; decide
theorem tyN_n : (D.non.ty ≠ "") = True := eq_true ty_n
theorem isT_n_int : isT D.non.ty "int" = false := by show isT "NoneType" "int" = _; decide
theorem isT_n_bool : isT D.non.ty "bool" = false := by show isT "NoneType" "bool" = _; decide
theorem isT_n_list : isT D.non.ty "list" = false := by show isT "NoneType" "list" = _; decide
theorem isT_n_tuple : isT D.non.ty "tuple" = false := by show isT "NoneType" "tuple" = _; decide
theorem isT_n_str : isT D.non.ty "str" = false := by show isT "NoneType" "str" = _; decide
theorem ty_s : (D.str s).ty ≠ "" := by show "str" ≠ ""; decide
theorem tyN_s : ((D.str s).ty ≠ "") = True := eq_true ty_s
theorem isT_s_int : isT (D.str s).ty "int" = false := by show isT "str" "int" = _; decide
theorem isT_s_bool : isT (D.str s).ty "bool" = false := by show isT "str" "bool" = _; decide
theorem isT_s_list : isT (D.str s).ty "list" = false := by show isT "str" "list" = _; decide
theorem isT_s_tuple : isT (D.str s).ty "tuple" = false := by show isT "str" "tuple" = _; decide
theorem isT_s_str : isT (D.str s).ty "str" = true := by show isT "str" "str" = _; decide
theorem ty_l : (D.lst ds).ty ≠ "" := by show "list" ≠ ""; decide
theorem tyN_l : ((D.lst ds).ty ≠ "") = True := eq_true ty_l
theorem isT_l_int : isT (D.lst ds).ty "int" = false := by show isT "list" "int" = _; decide
theorem isT_l_bool : isT (D.lst ds).ty "bool" = false := by show isT "list" "bool" = _; decide
theorem isT_l_list : isT (D.lst ds).ty "list" = true := by show isT "list" "list" = _; decide
theorem isT_l_tuple : isT (D.lst ds).ty "tuple" = false := by show isT "list" "tuple" = _; decide
theorem isT_l_str : isT (D.lst ds).ty "str" = false := by show isT "list" "str" = _; decide
theorem ty_t : (D.tup ds).ty ≠ "" := by show "tuple" ≠ ""; decide
theorem tyN_t : ((D.tup ds).ty ≠ "") = True := eq_true ty_t
theorem isT_t_int : isT (D.tup ds).ty "int" = false := by show isT "tuple" "int" = _; decide
theorem isT_t_bool : isT (D.tup ds).ty "bool" = false := by show isT "tuple" "bool" = _; decide
theorem isT_t_list : isT (D.tup ds).ty "list" = false := by show isT "tuple" "list" = _; decide
theorem isT_t_tuple : isT (D.tup ds).ty "tuple" = true := by show isT "tuple" "tuple" = _; decide
theorem isT_t_str : isT (D.tup ds).ty "str" = false := by show isT "tuple" "str" = _; decide
theorem ty_f : (D.flst ds).ty ≠ "" := by show "list" ≠ ""; decide
theorem tyN_f : ((D.flst ds).ty ≠ "") = True := eq_true ty_f
theorem isT_f_int : isT (D.flst ds).ty "int" = false := by show isT "list" "int" = _; decide
theorem isT_f_bool : isT (D.flst ds).ty "bool" = false := by show isT "list" "bool" = _; decide
theorem isT_f_list : isT (D.flst ds).ty "list" = true := by show isT "list" "list" = _; decide
theorem isT_f_tuple : isT (D.flst ds).ty "tuple" = false := by show isT "list" "tuple" = _; decide
theorem isT_f_str : isT (D.flst ds).ty "str" = false := by show isT "list" "str" = _; decide
end
/-! ### walks as maps -/
theorem enumF_map {α : Type} (f : α → D) : ∀ (xs : List α) (n : Nat), enumF n (xs.map f) = (xs.zipIdx n).map fun p => .tup [.int p.2, f p.1]
  | [], _ => rfl
  | x :: xs, n => by rw [List.map_cons, enumF, enumF_map f xs (n + 1)]; rfl
theorem zip_map {α β : Type} (f : α → D) (g : β → D) : ∀ (xs : List α) (ys : List β), List.zipWith (fun d e => D.tup [d, e]) (xs.map f) (ys.map g) = (xs.zip ys).map fun p => .tup [f p.1, g p.2]
  | [], _ => rfl
  | _ :: _, [] => rfl
  | x :: xs, y :: ys => by rw [List.map_cons, List.map_cons, List.zipWith_cons_cons, zip_map f g xs ys]; rfl
theorem ups_range (n : Nat) : (ups 0 1 n).map D.int = (List.range n).map fun i => D.int (i : Nat) := by
  unfold ups
  rw [List.map_map]
  apply List.map_congr_left
  intro i _
  show D.int (0 + (i : Int) * 1) = _
  congr 1
  omega
theorem fm_some {α β : Type} (h : α → β) (xs : List α) : xs.filterMap (fun x => some (h x)) = xs.map h := by rw [← List.filterMap_eq_map]; rfl
theorem map_id_d (ds : List D) : ds = ds.map id := by simp
/-! ### ints, pairs, webs -/
def pr (c : Nat × Nat) : D := .tup [.int c.1, .int c.2]
def webD (cs : List (Nat × Nat)) : D := .lst (cs.map pr)
def intsD (ns : List Int) : D := .lst (ns.map .int)
def owI (ns : List Int) : T := .ow (ns.map .int)
theorem owI_d (ns : List Int) : (owI ns).d = intsD ns := rfl
theorem deq_pr (a b : Nat × Nat) : deq (pr a) (pr b) = decide (a = b) := by
  unfold pr
  rw [deq_t, deqs_cc, deqs_cc, deqs_nn, deq_i, deq_i, Bool.and_true, ← Bool.decide_and]
  apply decide_eq_decide.mpr
  constructor
  · rintro ⟨h1, h2⟩; exact Prod.ext (by omega) (by omega)
  · rintro rfl; exact ⟨rfl, rfl⟩
theorem deq_web (a b : List (Nat × Nat)) : deq (webD a) (webD b) = decide (a = b) := by
  unfold webD
  rw [deq_l, deqs_map deq_pr]
theorem deq_ints (a b : List Int) : deq (intsD a) (intsD b) = decide (a = b) := by
  unfold intsD
  rw [deq_l, deqs_map fun _ _ => deq_i]
theorem deq_intss (a b : List (List Int)) : deq (.lst (a.map intsD)) (.lst (b.map intsD)) = decide (a = b) := by rw [deq_l, deqs_map deq_ints]
theorem fine_pr (c : Nat × Nat) (n : Nat) : (pr c).fine (n + 1) = true := by
  unfold pr
  rw [fine_t, fines_c, fines_c, fines_n, fine_i, fine_i] <;> rfl
theorem fine_web (cs : List (Nat × Nat)) (n : Nat) : (webD cs).fine (n + 2) = true := by
  unfold webD
  rw [fine_l]
  exact fines_map fun c _ => fine_pr c n
theorem fine_ints (ns : List Int) (n : Nat) : (intsD ns).fine (n + 1) = true := by
  unfold intsD
  rw [fine_l]
  exact fines_map fun c _ => fine_i
theorem fine_intss (ns : List (List Int)) (n : Nat) : (D.lst (ns.map intsD)).fine (n + 2) = true := by
  rw [fine_l]
  exact fines_map fun c _ => fine_ints c n
theorem clean_ints (ns : List Int) : D.cleans (ns.map D.int) = true := cleans_map fun _ _ => rfl
theorem clean_pr (c : Nat × Nat) : (pr c).clean = true := rfl
theorem clean_prs (cs : List (Nat × Nat)) : D.cleans (cs.map pr) = true := cleans_map fun _ _ => rfl
theorem ixN_nat {n j : Nat} (hj : j < n) : ixN n (j : Int) = some j := by
  unfold ixN
  rw [if_pos (by omega), if_pos (by omega)]
  simp
theorem atI_map {α : Type} {f : α → D} {xs : List α} {j : Nat} {x : α} (h : xs[j]? = some x) : atI (xs.map f) (j : Int) = some (f x) := atI_nat (by rw [List.getElem?_map, h]; rfl)
theorem atI_int {row : List Int} {j : Nat} (h : j < row.length) : atI (row.map D.int) (j : Int) = some (.int (row.getD j 0)) := atI_map (by simp [h])
theorem atI_toNat {ds : List D} {i : Int} {d : D} (h0 : 0 ≤ i) (h : ds[i.toNat]? = some d) : atI ds i = some d := by
  have := atI_nat (xs := ds) (j := i.toNat) h
  rwa [Int.toNat_of_nonneg h0] at this
theorem atI_lt {ds : List D} {i : Int} (h0 : 0 ≤ i) (h : i < ds.length) : ∃ d, atI ds i = some d := ⟨ds[i.toNat]'(by omega), atI_toNat h0 (by simp [show i.toNat < ds.length by omega])⟩
structure IsWeb (n : Nat) (cs : List (Nat × Nat)) : Prop where
  lo : 1 ≤ n
  hi : n ≤ 10
  len : cs.length ≤ 60
  ok : ∀ c ∈ cs, c.1 < n ∧ c.2 < n ∧ c.1 ≠ c.2
theorem cut_to {α : Type} (xs : List α) (k : Nat) : cutD xs none (some (k : Int)) = xs.take k := by
  unfold cutD HT.sIx
  simp only
  rw [if_neg (by omega)]
  simp [List.take_take]
theorem cut_from {α : Type} (xs : List α) (k : Nat) : cutD xs (some (k : Int)) none = xs.drop k := by
  unfold cutD HT.sIx
  simp only
  rw [if_neg (by omega), Int.toNat_natCast]
  apply List.ext_getElem?
  intro i
  rw [List.getElem?_take, List.getElem?_drop, List.getElem?_drop]
  split
  · rename_i h
    congr 1; omega
  · rename_i h
    rw [List.getElem?_eq_none (by omega)]
theorem cut_between {α : Type} (xs : List α) (k m : Nat) : cutD xs (some (k : Int)) (some (m : Int)) = (xs.drop k).take (m - k) := by
  unfold cutD HT.sIx
  simp only
  rw [if_neg (by omega), if_neg (by omega), Int.toNat_natCast, Int.toNat_natCast]
  apply List.ext_getElem?
  intro i
  rw [List.getElem?_take, List.getElem?_drop, List.getElem?_take, List.getElem?_drop]
  by_cases h : k ≤ xs.length
  · rw [show min k xs.length = k by omega]
    split <;> split
    · rfl
    · omega
    · rw [List.getElem?_eq_none (by omega)]
    · rfl
  · rw [List.getElem?_eq_none (by omega)]
    split <;> split
    · rw [List.getElem?_eq_none (by omega)]
    · rfl
    · rw [List.getElem?_eq_none (by omega)]
    · rfl
theorem cut_map {α β : Type} (f : α → β) (xs : List α) (lo hi : Option Int) : cutD (xs.map f) lo hi = (cutD xs lo hi).map f := by
  unfold cutD
  rw [List.length_map, List.map_take, List.map_drop]
end W

/-! FK: more rules. A list of lists whose inner lists are shared; -/
namespace W
open PySem L2
section
variable {X : Cx} {K : PySem.W.Frag} {a b c e e2 : Expr} {es : List Expr} {be : BT} {bm bk : BM} {pos : Pos} {S0 H0 S H S' H' : Hp} {σ : L2.St} {env : List (Option T)} {Lf : Nat → List Addr} {v : V} {t : T} {L : List Addr}
def half : T → T
  | .ows ts => .ow (T.ds ts)
  | t => t
/-- the outer list stays ours, what lies within is shared -/
def mH (b : BM) : BM := fun env Q => b env fun t env1 => Q (half t) env1
theorem Own.shareL (o : Own K S0 H0 S H σ env Lf) (p : Pend L Lf H0 S H) : Own K S0 H0 (shr S H L) H σ env Lf := by
  have e := shr_le (L := L) o.ext.le
  refine ⟨⟨o.ext.s.trans e, o.ext.h, shr_ge o.ext.le, fun a u h => ?_⟩, o.len, fun i u h => ?_, o.nod, o.dis, fun i a m => ?_⟩
  · have n : a ∉ L := fun m => by rw [(p.2 a m).2.1] at h; cases h
    rw [shr_out n]
    exact o.ext.dom a u h
  · obtain ⟨w, h1, h2⟩ := o.slot i u h
    exact ⟨w, h1, h2.mono e fun _ _ => rfl⟩
  · obtain ⟨h1, h2, h3⟩ := o.fr i a m
    refine ⟨h1, ?_, h3⟩
    rw [shr_out fun z => (p.2 a z).1 i m]
    exact h2
theorem mH_ref {Q : VK} (h : mOf K (mH bm) σ H Q) : mOf K bm σ H Q := by
  obtain ⟨S0, H0, S, env, Lf, Qd, o, hb, hQ⟩ := h
  refine ⟨S0, H0, S, env, Lf, _, o, hb, fun v S' H' t L env' Lf' e o' r p k q => ?_⟩
  cases r with
  | @ows a xs ts L1 h1 rr =>
    have p1 : Pend L1 Lf' H0 S' H' := ⟨(List.nodup_cons.mp p.1).2, fun b m => p.2 b (List.mem_cons_of_mem _ m)⟩
    have na : a ∉ L1 := (List.nodup_cons.mp p.1).1
    have se := shr_le (L := L1) o'.ext.le
    refine hQ (.ref a) (shr S' H' L1) H' (.ow (T.ds ts)) [a] env' Lf' (e.trans se) (o'.shareL p1) (.ow h1 (rr.share se fun b m => shr_in m)) ⟨List.nodup_cons.mpr ⟨fun z => (by cases z), List.nodup_nil⟩, fun b m => ?_⟩ (fun b u h n => ?_) q
    · rw [List.mem_singleton] at m
      subst m
      obtain ⟨g1, g2, g3, g4⟩ := p.2 b (by simp)
      exact ⟨g1, g2, by rw [shr_out na]; exact g3, g4⟩
    · obtain ⟨k1, k2, k3, k4⟩ := k b u h n
      refine ⟨k1, ?_, fun m => ?_, k4⟩
      · rw [shr_out fun m => k3 (List.mem_cons_of_mem _ m)]
        exact k2
      · rw [List.mem_singleton] at m
        subst m
        exact k3 (by simp)
  | sh z => exact hQ v S' H' _ _ env' Lf' e o' (.sh z) p k q
  | ow z1 z2 => exact hQ _ S' H' _ _ env' Lf' e o' (.ow z1 z2) p k q
  | tp z1 z2 => exact hQ _ S' H' _ _ env' Lf' e o' (.tp z1 z2) p k q
  | bn z1 z2 z3 z4 z5 z6 => exact hQ _ S' H' _ _ env' Lf' e o' (.bn z1 z2 z3 z4 z5 z6) p k q
  | dt z1 => exact hQ _ S' H' _ _ env' Lf' e o' (.dt z1) p k q
  | md z1 z2 z3 => exact hQ _ S' H' _ _ env' Lf' e o' (.md z1 z2 z3) p k q
  | ol z1 z2 => exact hQ _ S' H' _ _ env' Lf' e o' (.ol z1 z2) p k q
  | ml z1 z2 => exact hQ _ S' H' _ _ env' Lf' e o' (.ml z1 z2) p k q
theorem m_h (h : PM X e bm) : PM X e (mH bm) := pe_weak h fun _ _ _ => mH_ref
end
section
variable {Q : T → Prop} {ts : List T} {ds : List D} {d : D}
theorem hide_cons {o : Option T} {l : List (Option T)} : hide (o :: l) = hideO o :: hide l := rfl
theorem hideO_sh : hideO (some (.sh d)) = some (.sh d) := rfl
theorem hideO_ow : hideO (some (.ow ds)) = none := rfl
theorem hideO_ows : hideO (some (.ows ts)) = none := rfl
theorem hideO_tp : hideO (some (.tp ts)) = none := rfl
theorem hideO_n : hideO none = none := rfl
theorem hideO_dt {ks : List (List Int)} : hideO (some (.dt ks)) = none := rfl
theorem hideO_md {a : Addr} {n : Int} {w : List D} : hideO (some (.md a n w)) = none := rfl
theorem hideO_ol {a : Addr} {w : List D} : hideO (some (.ol a w)) = none := rfl
theorem hideO_bn {a : Addr} {n : Int} {l p : List D} : hideO (some (.bn a n l p)) = none := rfl
theorem half_ows : half (.ows ts) = .ow (T.ds ts) := rfl
theorem half_ow : half (.ow ds) = .ow ds := rfl
theorem half_sh : half (.sh d) = .sh d := rfl
theorem half_lst1 : half (mkLst [.ow ds]) = .ow [.lst ds] := rfl
theorem half_lst1s : half (mkLst [.sh d]) = .ow [d] := rfl
theorem sets_n {env : List (Option T)} {us : List T} : sets env [] us = env := rfl
theorem sets_c {env : List (Option T)} {j : Nat} {js : List Nat} {u : T} {us : List T} : sets env (j :: js) (u :: us) = sets (env.set j (some u)) js us := rfl
theorem put_pr {env : List (Option T)} {i j : Nat} {c : Nat × Nat} : (Tg.t [i, j]).put (.sh (pr c)) env = some ((env.set i (some (.sh (.int c.1)))).set j (some (.sh (.int c.2)))) := rfl
theorem fIx_pr {c : Nat × Nat} {i : Int} : fIx (pr c) (.int i) Q = ∃ d, atI [.int c.1, .int c.2] i = some d ∧ Q (.sh d) := rfl
theorem mkLst_d : (mkLst ts).d = .lst (T.ds ts) := by unfold mkLst; split <;> rfl
theorem mkTup_d : (mkTup ts).d = .tup (T.ds ts) := by unfold mkTup; split <;> rfl
theorem clean_lst1 : (mkLst [.ow ds]).clean = (D.cleans ds && true) := rfl
end
mutual
theorem eqv_rfl : ∀ d : D, PyData.eqv d.py d.py = true
  | .non => by simp [D.py, PyData.eqv]
  | .bl b => by cases b <;> simp [D.py, PyData.eqv]
  | .int i => by simp [D.py, PyData.eqv]
  | .str x => by simp [D.py, PyData.eqv]
  | .lst ds => by simp only [D.py, PyData.eqv]; exact eqvs_rfl ds
  | .tup ds => by simp only [D.py, PyData.eqv]; exact eqvs_rfl ds
  | .flst ds => by simp only [D.py, PyData.eqv]; exact eqvs_rfl ds
  | .abs _ => by simp [D.py, PyData.eqv]
  | .bn _ _ _ => by simp [D.py, PyData.eqv]
  | .dt _ => by simp [D.py, PyData.eqv]
  | .exc _ _ => by simp [D.py, PyData.eqv]
  | .md _ _ => by simp [D.py, PyData.eqv]
  | .mdn _ => by simp [D.py, PyData.eqv]
theorem eqvs_rfl : ∀ ds : List D, PyData.eqvAll (D.pys ds) (D.pys ds) = true
  | [] => by simp [D.pys, PyData.eqvAll]
  | d :: ds => by simp only [D.pys, PyData.eqvAll, eqv_rfl d, eqvs_rfl ds, Bool.and_self]
end
theorem deq_rfl (d : D) : deq d d = true := eqv_rfl d
theorem zip_same {α : Type} (f g : α → D) (xs : List α) : List.zipWith (fun d e => D.tup [d, e]) (xs.map f) (xs.map g) = xs.map fun x => .tup [f x, g x] := by
  induction xs with
  | nil => rfl
  | cons x xs ih => rw [List.map_cons, List.map_cons, List.zipWith_cons_cons, ih, List.map_cons]
theorem fn_mk {P : Program} {w : PySem.World} {K : PySem.W.Frag} {mg : Str → Option Value} {base : Heap} {x : Str} {params : Arguments} {body : List Stmt} {scope : Scope} {f : Addr} {fd : FuncData} {N ps : List Str} {k : Nat} {sp : SpD} {dt : DS}
    (F : FunD K x x params body scope [] [] f fd) (S : FnScope N ps scope) (len : ∀ ds Q, sp ds Q → ds.length = ps.length)
    (hbody : ∀ (cdv : Value) (A : Around) (outer : List PySem.Env) (s : Shared) (H : Hp) (E : XK), Room k (A.deeper (PyProof.Rows.envOfC x scope s.heap.objs.size f cdv)) → PSds (cxOf CX0 P w K mg base N x scope f cdv A outer s H E).nox body dt)
    (hd : ∀ ds Q, sp ds Q → dt (ends0 Q) (env0 N.length ds)) : FnOk P w K mg base CX0 (k + 1) f fd ps (spOf K sp) := by
  refine F.ok S (fun vs H Q E h => ?_) (fun cdv A outer s H vs Q E hr h => ?_)
  · obtain ⟨S', ds, Qd, e, a, h, _⟩ := h
    rw [a.length]
    exact len ds Qd h
  · obtain ⟨S', ds, Qd, e, a, h, k⟩ := h
    refine ⟨sOf _ dt, (hbody cdv A outer s H E hr).nox, ?_⟩
    refine ⟨S', H, S', env0 N.length ds, fun _ => [], ends0 Qd, own_start e a, hd ds Qd h, fun S2 H2 σ2 env2 Lf2 _ o q => ?_, fun _ _ _ _ _ _ _ q => q.elim, fun _ _ _ _ _ _ _ q => q.elim, fun v S2 H2 σ2 env2 Lf2 t L o r p q => k v S2 H2 t (o.out r p) q, fun _ _ _ _ _ _ _ _ _ _ _ q => q.elim⟩
    exact k .non S2 H2 _ ((Out.sh o.ext.le .non).from o.ext) q
end W

/-! FL: in, count, pops as expressions, a choice between two that change. -/
namespace W
open PySem L2
section
variable {X : Cx} {K : PySem.W.Frag} {a b c e e2 : Expr} {es : List Expr} {ba bb be : BT} {bm bk : BM} {q : BTT} {pos : Pos} {S0 H0 S H S' H' : Hp} {σ : L2.St} {env : List (Option T)} {Lf : Nat → List Addr} {v : V} {t : T} {L : List Addr}
/-! ### in, of ints -/
def fInG (neg : Bool) : F2 := fun d e Q => ∃ (i : Int) (ns : List Int), d = .int i ∧ (e = .lst (ns.map .int) ∨ e = .tup (ns.map .int)) ∧ Q (.sh (.bl (if neg then !decide (i ∈ ns) else decide (i ∈ ns))))
abbrev fIn : F2 := fInG false
abbrev fNin : F2 := fInG true
theorem inV_ints (i : Int) : ∀ ns : List Int, inV (.int i) (ns.map V.int) = decide (i ∈ ns)
  | [] => by simp [inV]
  | n :: ns => by
    have ih := inV_ints i ns
    unfold inV at ih ⊢
    rw [List.map_cons, List.any_cons, ih]
    by_cases h : i = n
    · subst h
      simp [eqV]
    · have h2 : eqV (.int n) (.int i) = false := by
        show decide _ = false
        exact decide_eq_false fun z => h z.symm
      rw [h2]
      simp [h]
theorem flat_ints (ns : List Int) : (ns.map V.int).all flatV = true := by
  rw [List.all_map]
  exact List.all_eq_true.mpr fun _ _ => rfl
theorem ref_in {neg : Bool} : RefR2 K (rIn K neg) (fInG neg) := fun S H v w d e Q Qd hS h1 h2 hf hQ => by
  obtain ⟨i, ns, rfl, he, hq⟩ := hf
  cases h1
  rcases he with rfl | rfl
  · cases h2 with
    | @lst p xs _ hp ha =>
      have := ha.ints
      subst this
      exact ⟨p, _, rfl, .inl (.inl (.inl (hS _ _ hp))), rfl, flat_ints ns, by rw [inV_ints]; exact hQ _ S H _ (.sh hS (.bl _)) hq⟩
  · cases h2 with
    | @tup p xs _ hp ha =>
      have := ha.ints
      subst this
      exact ⟨p, _, rfl, .inr (same_t hS hp), rfl, flat_ints ns, by rw [inV_ints]; exact hQ _ S H _ (.sh hS (.bl _)) hq⟩
theorem o_in : OpD X (compareOp .In) fIn := ⟨_, op_in_seq, ref_in (neg := false)⟩
theorem o_nin : OpD X (compareOp .NotIn) fNin := ⟨_, op_notIn_seq, ref_in (neg := true)⟩
/-! ### l.count(i) -/
def bCount (ba bb : BT) : BT := fun env Q => ba env fun x => ∃ ns : List Int, x.d = .lst (ns.map .int) ∧ bb env fun y => ∃ k : Int, y.d = .int k ∧ Q (.sh (.int (ns.count k : Nat)))
theorem b_count {apos cpos : Pos} (ha : PB X a ba) (hb : PB X b bb) (hbase : attributeBase a "count" X.env (eval a X.env) = eval a X.env := by rfl)
    (hfew : ((backTo cpos (starEach [b] X.env)).all (fun x => !x.1) && (backToKw cpos (keywordEach [] X.env)).all (fun x => x.1.isSome) && decide (([b] : List Expr).length + ([] : List Keyword).length + (if ([] : List Keyword).isEmpty then 0 else 1) < 30)) = true := by rfl)
    (hline : (apos.endLine == cpos.line) = true := by rfl) (hs : starEach [b] X.env = (false, eval b X.env) :: starEach [] X.env := by rfl) (hplain : (backTo cpos (starEach [] X.env)).any (·.1) = false := by rfl) :
    PB X (.Call (.Attribute a "count" apos) [b] [] cpos) (bCount ba bb) :=
  pe_weak (pe_bm PySem.F.plainAttrs_list PySem.F.slot_list_count PySem.F.type_list_count mt_lcount ha (pa_cons hb pa_nil hs) hbase hfew hline hs hplain) fun σ H Q ⟨S, env, Qd, hS, hE, hh, hQ⟩ => by
  refine ⟨S, env, _, hS, hE, hh, fun v S1 H1 t O ⟨ns, h1, q⟩ => ?_⟩
  obtain ⟨S2, e2, l2, a2⟩ := O.share
  rw [h1] at a2
  cases a2 with
  | @lst p xs _ hp hx =>
    have := hx.ints
    subst this
    refine ⟨.inl ⟨rfl, _, .inl (.inl (e2.le _ _ hp))⟩, S2, env, _, e2.le, hE.mono e2.s, q, fun w S3 H3 u O3 ⟨k, h2, h3⟩ => ?_⟩
    obtain ⟨S4, e4, l4, a4⟩ := O3.share
    rw [h2] at a4
    cases a4
    exact ⟨p, ns, k, rfl, rfl, .inl (.inl (e4.le _ _ (e4.s _ _ hp))), hQ _ S4 H3 _ ((Out.sh e4.le (.int _)).from (e2.trans e4)) h3⟩
/-! ### pops -/
theorem Ats.snoc {S : Hp} : ∀ {ds : List D} {d : D} {xs : List V}, Ats K S xs (ds ++ [d]) → ∃ ys y, xs = ys ++ [y] ∧ Ats K S ys ds ∧ At K S y d
  | [], _, _, .cons h .nil => ⟨[], _, rfl, .nil, h⟩
  | _ :: ds, d, _, .cons h a => by
    obtain ⟨ys, y, rfl, a2, h2⟩ := Ats.snoc (ds := ds) a
    exact ⟨_ :: ys, y, rfl, .cons h a2, h2⟩
theorem keep_write {p : Addr} {o : HO} {i : Nat} (hi : p ∈ Lf i) : Keep Lf Lf [] S H S (upd H p o) := fun a u h n => ⟨by
  rw [upd_ne (fun z : a = p => n i (by subst z; exact hi))]
  exact h, rfl, fun m => (by cases m), n⟩
theorem pend_nil : Pend [] Lf H0 S H := ⟨List.nodup_nil, fun _ m => by cases m⟩
/-- x.pop() -/
def mPop (i : Nat) : BM := fun env Q => ∃ ds d, nth env i = some (.ow (ds ++ [d])) ∧ Q (.sh d) (env.set i (some (.ow ds)))
theorem m_pop (i : Nat) {x : Str} {npos apos cpos : Pos} (hN : X.N[i]? = some x := by rfl) (hv : Vis X.env.scope x := by first | exact Or.inl rfl | exact Or.inr (Or.inl rfl) | exact Or.inr (Or.inr rfl)) (hd : (x == ("__debug__" : Str)) = false := by decide)
    (hcd : (x == ("__classdict__" : Str)) = false := by decide) (hbase : attributeBase (.Name x npos) "pop" X.env (eval (.Name x npos) X.env) = eval (.Name x npos) X.env := by rfl) (hline : (apos.endLine == cpos.line) = true := by rfl) :
    PM X (.Call (.Attribute (.Name x npos) "pop" apos) [] [] cpos) (mPop i) :=
  pe_weak (pe_bm0 PySem.F.plainAttrs_list PySem.F.slot_list_pop PySem.F.type_list_pop mt_pop (pe_var hN hv hd hcd) hbase hline) fun σ H Q ⟨S0, H0, S, env, Lf, Qd, o, ⟨ds, d, h, hb⟩, hQ⟩ => by
  obtain ⟨p, xs, g1, g2, g3, g4, g5⟩ := o.owAt h
  obtain ⟨ys, y, rfl, a1, a2⟩ := g3.snoc
  refine ⟨.ref p, g1, .inl ⟨rfl, _, .inl (.inl g2)⟩, p, _, y, rfl, rfl, g2, by simp, ?_⟩
  rw [List.dropLast_concat]
  exact hQ y S _ (.sh d) [] _ Lf (.refl _) (o.writeOw g5 g1 g4 a1) (.sh a2) pend_nil (keep_write (i := i) (by rw [g4]; simp)) hb
/-- x.pop(k) -/
def mPopAt (i : Nat) (bk : BM) : BM := fun env Q => isOw (nth env i) = true ∧ bk env fun tk env1 => asI tk fun k => match nth env1 i with
  | some (.ow ds) => 0 ≤ k ∧ k ≤ 1000000 ∧ ∃ d, ds[k.toNat]? = some d ∧ Q (.sh d) (env1.set i (some (.ow (ds.eraseIdx k.toNat))))
  | _ => False
theorem m_popAt (i : Nat) {x : Str} {npos apos cpos : Pos} (hk : PM X e bk) (hN : X.N[i]? = some x := by rfl) (hv : Vis X.env.scope x := by first | exact Or.inl rfl | exact Or.inr (Or.inl rfl) | exact Or.inr (Or.inr rfl)) (hd : (x == ("__debug__" : Str)) = false := by decide)
    (hcd : (x == ("__classdict__" : Str)) = false := by decide) (hbase : attributeBase (.Name x npos) "pop" X.env (eval (.Name x npos) X.env) = eval (.Name x npos) X.env := by rfl)
    (hfew : ((backTo cpos (starEach [e] X.env)).all (fun x => !x.1) && (backToKw cpos (keywordEach [] X.env)).all (fun x => x.1.isSome) && decide (([e] : List Expr).length + ([] : List Keyword).length + (if ([] : List Keyword).isEmpty then 0 else 1) < 30)) = true := by rfl)
    (hline : (apos.endLine == cpos.line) = true := by rfl) (hs : starEach [e] X.env = (false, eval e X.env) :: starEach [] X.env := by rfl) (hplain : (backTo cpos (starEach [] X.env)).any (·.1) = false := by rfl) :
    PM X (.Call (.Attribute (.Name x npos) "pop" apos) [e] [] cpos) (mPopAt i bk) :=
  pe_weak (pe_bm PySem.F.plainAttrs_list PySem.F.slot_list_pop PySem.F.type_list_pop mt_popAt (pe_var hN hv hd hcd) (pa_cons hk pa_nil hs) hbase hfew hline hs hplain) fun σ H Q ⟨S0, H0, S, env, Lf, Qd, o, ⟨hw, hd⟩, hQ⟩ => by
  obtain ⟨p, xs, h1, h2⟩ := isOw_lst o hw
  refine ⟨.ref p, h1, .inl ⟨rfl, xs, .inl (.inl h2)⟩, S0, H0, S, env, Lf, _, o, hd, fun v S1 H1 t L env' Lf' e o' r' pe kp q => ?_⟩
  obtain ⟨k, rfl, q⟩ := asI_res q r'
  cases e3 : nth env' i with
  | none => rw [e3] at q; exact q.elim
  | some u =>
    rw [e3] at q
    cases u with
    | ow ds =>
      obtain ⟨k0, k1, d, hd, q⟩ := q
      obtain ⟨p2, ys, g1, g2, g3, g4, g5⟩ := o'.owAt e3
      rw [h1] at g1
      cases g1
      obtain ⟨y, hy, ay⟩ := g3.get hd
      have hl := g3.length
      have hlt : k.toNat < ys.length := (List.getElem?_eq_some_iff.mp hy).1
      refine ⟨p, ys, k, k.toNat, y, rfl, rfl, g2, by omega, by omega, seq_at k0 (by omega), hy, ?_⟩
      refine hQ y S1 _ (.sh d) [] _ Lf' e (o'.writeOw g5 h1 g4 (g3.erase _)) (.sh ay) pend_nil (fun a u h n => ?_) q
      obtain ⟨z1, z2, z3, z4⟩ := kp a u h n
      exact ⟨by rw [upd_ne (fun z => z4 i (by rw [g4, z]; simp))]; exact z1, z2, fun m => (by cases m), z4⟩
    | _ => exact q.elim
/-- a if c else b, each may change what is ours -/
def mIf (c : BTT) (ba bb : BM) : BM := fun env Q => c env fun k => (k = true → ba env Q) ∧ (k = false → bb env Q)
theorem m_if {b1 b2 : BM} (hc : PQ X c q) (ha : PM X a b1) (hb : PM X b b2) : PM X (.IfExp c a b pos) (mIf q b1 b2) := pe_weak (pe_ifExp hc ha hb) fun σ H Q ⟨S0, H0, S, env, Lf, Qd, o, hb, hQ⟩ => by
  refine ⟨lent S H Lf, env, _, o.lentH, o.lendE, hb, fun k S' H' e ⟨h1, h2⟩ => ?_⟩
  have e2 := o.back e
  have o2 := o.grow e2
  have key : ∀ {v S2 H2 t L env2 Lf2}, Same (unlent S' Lf) S2 → Own X.K S0 H0 S2 H2 σ env2 Lf2 → Res X.K S2 H2 v t L → Pend L Lf2 H0 S2 H2 → Keep Lf Lf2 L (unlent S' Lf) H' S2 H2 → Qd t env2 → Q v H2 := fun e3 o3 r3 p3 k3 q3 =>
    hQ _ _ _ _ _ _ _ (e2.s.trans e3) o3 r3 p3 (fun a u h n => by
      obtain ⟨z1, z2, z3, z4⟩ := k3 a u (e2.h a _ h) n
      exact ⟨z1, z2.trans (e2.dom a u h), z3, z4⟩) q3
  cases k with
  | true => exact iteT ⟨S0, H0, _, env, Lf, Qd, o2, h1 rfl, fun v S2 H2 t L env2 Lf2 e3 o3 r3 p3 k3 q3 => key e3 o3 r3 p3 k3 q3⟩
  | false => exact iteF ⟨S0, H0, _, env, Lf, Qd, o2, h2 rfl, fun v S2 H2 t L env2 Lf2 e3 o3 r3 p3 k3 q3 => key e3 o3 r3 p3 k3 q3⟩
end
end W

/-! FM: a list of ints that a call tells is ours, where no list of ints was handed in. -/
namespace W
open PySem L2
def noHd : List D → Bool
  | .int _ :: _ => false
  | _ => true
mutual
def D.noI : D → Bool
  | .lst ds => noHd ds && D.noIs ds
  | .tup ds => D.noIs ds
  | .flst ds => noHd ds && D.noIs ds
  | .abs _ => false
  | .bn _ _ _ => false
  | .dt _ => false
  | .exc _ _ => false
  | .md _ _ => false
  | .mdn _ => false
  | _ => true
def D.noIs : List D → Bool
  | [] => true
  | d :: ds => d.noI && D.noIs ds
end
/-- without the lists that begin with an int -/
def dropI (S : Hp) : Hp := fun a => match S a with
  | some (.lst (.int _ :: _)) => none
  | u => u
theorem dropI_le (S : Hp) : Same (dropI S) S := fun a u h => by
  unfold dropI at h
  split at h
  · cases h
  · exact h
theorem dropI_keep {S : Hp} {a : Addr} {u : HO} (h : S a = some u) (n : ∀ i xs, u ≠ .lst (.int i :: xs)) : dropI S a = some u := by
  unfold dropI
  rw [h]
  split
  · rename_i e
    cases e
    exact (n _ _ rfl).elim
  · rfl
section
variable {X : Cx} {K : PySem.W.Frag} {a : Expr} {es : List Expr} {bs : BA} {pos : Pos}
theorem hd_not {S : Hp} {i : Int} {xs : List V} {ds : List D} (a : Ats K S (.int i :: xs) ds) (n : noHd ds = true) (m : D.noIs ds = true) : False := by
  cases a with
  | cons h1 _ =>
    cases h1 with
    | int i => cases n
    | abs _ => simp [D.noIs, D.noI] at m
mutual
theorem At.dropI {S : Hp} : ∀ {d : D} {v : V}, At K S v d → d.noI = true → At K (dropI S) v d
  | _, _, .non, _ => .non
  | _, _, .bl b, _ => .bl b
  | _, _, .int i, _ => .int i
  | _, _, .str x, _ => .str x
  | _, _, .lst (ds := ds) h a, n => by
    rw [D.noI, Bool.and_eq_true] at n
    refine .lst (dropI_keep h fun i xs e => ?_) (Ats.dropI a n.2)
    cases e
    exact hd_not a n.1 n.2
  | _, _, .flst h a, n => by
    rw [D.noI, Bool.and_eq_true] at n
    refine .flst ?_ (Ats.dropI a n.2)
    rcases h with (h | ⟨o, h⟩) | h
    · exact .inl (.inl (dropI_keep h fun i xs e => by cases e; exact hd_not a n.1 n.2))
    · exact .inl (.inr ⟨o, dropI_keep h fun i xs e => by cases e⟩)
    · exact .inr h
  | _, _, .tup h a, n => by
    rw [D.noI] at n
    refine .tup ?_ (Ats.dropI a n)
    rcases h with (h | ⟨o, h⟩) | h
    · exact .inl (.inl (dropI_keep h fun i xs e => by cases e))
    · exact .inl (.inr ⟨o, dropI_keep h fun i xs e => by cases e⟩)
    · exact .inr h
  | _, _, .abs _, n => by simp [D.noI] at n
  | _, _, .bn _ _ _ _ _, n => by simp [D.noI] at n
  | _, _, .dt _, n => by simp [D.noI] at n
  | _, _, .exc _ _, n => by simp [D.noI] at n
  | _, _, .md _ _ _, n => by simp [D.noI] at n
  | _, _, .mdn _, n => by simp [D.noI] at n
theorem Ats.dropI {S : Hp} : ∀ {ds : List D} {vs : List V}, Ats K S vs ds → D.noIs ds = true → Ats K (dropI S) vs ds
  | _, _, .nil, _ => .nil
  | _, _, .cons h a, n => by
    rw [D.noIs, Bool.and_eq_true] at n
    exact .cons (At.dropI h n.1) (Ats.dropI a n.2)
end
def bCallFr (sp : SpD) (bs : BA) : BT := fun env Q => bs env fun ts => D.noIs (T.ds ts) = true ∧ sp (T.ds ts) fun t => (∃ x row, t.d = intsD (x :: row) ∧ Q (owI (x :: row))) ∨ (t.d = .non ∧ Q (.sh .non))
theorem b_callFr {k : Nat} {x : Str} {sp : SpD} {p : Pos} (c : CalD X.prog X.w X.K X.mg X.base k x sp) (hr : Room k X.A) (hg : Gl X x) (ha : PAb X (a :: es) bs)
    (hdb : (x == ("__debug__" : Str)) = false := by decide) (he : starEach (a :: es) X.env = (false, eval a X.env) :: starEach es X.env := by rfl) (hpl : (backTo pos (starEach es X.env)).any (·.1) = false := by rfl) :
    PB X (.Call (.Name x p) (a :: es) [] pos) (bCallFr sp bs) := by
  obtain ⟨f, fd, ps, F, hm, kp, b⟩ := c.ex
  refine pe_weak (pe_call F hr hg hm kp b .nil pass0 ha hdb he hpl) fun σ H Q ⟨S, env, Qd, hS, hE, hb, hQ⟩ => ?_
  refine ⟨S, env, _, hS, hE, hb, fun vs S1 H1 ts O ⟨hn, q⟩ => ?_⟩
  obtain ⟨S2, e2, _, a2⟩ := O.share
  rw [List.append_nil]
  refine ⟨dropI S2, _, _, (dropI_le S2).trans e2.le, a2.dropI hn, q, fun v S' H' t O' q' => ?_⟩
  obtain ⟨S3, e3, _, a3⟩ := O'.share
  have ext : Ext S2 H1 S2 H' := ⟨.refl _, e3.h, e2.le.trans e3.h, fun _ _ _ => rfl⟩
  rcases q' with ⟨i, row, ht, q'⟩ | ⟨ht, q'⟩
  · rw [ht] at a3
    unfold intsD at a3
    rw [List.map_cons] at a3
    cases a3 with
    | @lst p xs _ hp hx =>
      have fr : H1 p = none := by
        cases hh : H1 p with
        | none => rfl
        | some o =>
          have ho := (e3.le p _ hp).symm.trans (e3.h p o hh)
          cases ho
          have := e3.dom p (.lst xs) hh
          rw [hp] at this
          cases hx with
          | cons h1 _ =>
            cases h1
            unfold W.dropI at this
            split at this
            · cases this
            · rename_i n
              exact (n _ _ this.symm).elim
      refine hQ _ S2 H' (owI (i :: row)) (Out.from e2 ⟨ext, [p], .ow (e3.le _ _ hp) ?_, frs_one fr (Same.none e2.le fr)⟩) q'
      have hx2 : Ats X.K S3 xs ((i :: row).map D.int) := hx
      have hx3 := hx2.ints
      subst hx3
      exact Ats.of_ints _
  · rw [ht] at a3
    cases a3
    exact hQ _ S2 H' _ (Out.from e2 ⟨ext, [], .sh .non, Frs.nil⟩) q'
theorem noIs_n : D.noIs [] = true := rfl
theorem noIs_c {d : D} {ds : List D} : D.noIs (d :: ds) = (d.noI && D.noIs ds) := rfl
theorem noI_i {i : Int} : (D.int i).noI = true := rfl
theorem noI_web (cs : List (Nat × Nat)) : (D.lst (cs.map pr)).noI = true := by
  have h : ∀ cs : List (Nat × Nat), D.noIs (cs.map pr) = true := by
    intro cs
    induction cs with
    | nil => rfl
    | cons c cs ih => rw [List.map_cons, noIs_c, ih]; rfl
  rw [D.noI, h]
  cases cs <;> rfl
end
end W

/-! FN: list(range(..)). -/
namespace W
open PySem L2
section
variable {X : Cx} {K : PySem.W.Frag} {a b c e e2 : Expr} {es : List Expr} {ba bb be : BT} {pos p q : Pos} {t : T}
theorem rgV_ups (a b : Int) : rgV a b = (ups a 1 (b - a).toNat).map V.int := by
  unfold rgV ups
  rw [List.map_map]
  apply List.map_congr_left
  intro i _
  show V.int (a + (i : Nat)) = V.int (a + (i : Int) * 1)
  rw [Int.mul_one]
def bLr1 (ba : BT) : BT := fun env Q => ba env fun t => asI t fun n => -1000000 ≤ n ∧ n ≤ 1000000 ∧ Q (.ow ((ups 0 1 n.toNat).map .int))
def bLr2 (ba bb : BT) : BT := fun env Q => ba env fun t => bb env fun u => asI t fun m => asI u fun n => -1000000 ≤ m ∧ m ≤ 1000000 ∧ -1000000 ≤ n ∧ n ≤ 1000000 ∧ Q (.ow ((ups m 1 (n - m).toNat).map .int))
theorem b_lr1 (hc : X.calm = true) (hm : X.mg "list" = none) (hg : Gl X "list") (hm2 : X.mg "range" = none) (hg2 : Gl X "range") (ha : PB X a ba) (na : starEach [a] X.env = (false, eval a X.env) :: starEach [] X.env := by rfl)
    (nr : starEach [.Call (.Name "range" p) [a] [] q] X.env = (false, eval (.Call (.Name "range" p) [a] [] q) X.env) :: starEach [] X.env := by rfl) :
    PB X (.Call (.Name "list" p2) [.Call (.Name "range" p) [a] [] q] [] pos) (bLr1 ba) := pe_weak (pe_listRg hc hg hm (prg_1 hg2 hm2 ha na) nr) fun σ H Q ⟨S, env, Qd, hS, hE, hb, hQ⟩ => by
  refine ⟨S, env, _, hS, hE, hb, fun v S1 H1 t O q1 => ?_⟩
  obtain ⟨e1, L, r, f⟩ := O
  obtain ⟨n, rfl, h1, h2, q2⟩ := asI_res q1 r
  refine ⟨n, rfl, ⟨by omega, by omega, by omega, by omega, by omega⟩, fun x hx => ?_⟩
  rw [rgV_ups, Int.sub_zero]
  exact hQ _ _ _ _ ((Out.ow e1.le hx (Ats.of_ints _)).from e1) q2
theorem b_lr2 (hc : X.calm = true) (hm : X.mg "list" = none) (hg : Gl X "list") (hm2 : X.mg "range" = none) (hg2 : Gl X "range") (ha : PB X a ba) (hb : PB X b bb) (na : starEach [a, b] X.env = (false, eval a X.env) :: starEach [b] X.env := by rfl)
    (nb : starEach [b] X.env = (false, eval b X.env) :: starEach [] X.env := by rfl) (hp : (backTo q (starEach [b] X.env)).any (·.1) = false := by rfl)
    (nr : starEach [.Call (.Name "range" p) [a, b] [] q] X.env = (false, eval (.Call (.Name "range" p) [a, b] [] q) X.env) :: starEach [] X.env := by rfl) :
    PB X (.Call (.Name "list" p2) [.Call (.Name "range" p) [a, b] [] q] [] pos) (bLr2 ba bb) := pe_weak (pe_listRg hc hg hm (prg_2 hg2 hm2 ha hb na nb hp) nr) fun σ H Q ⟨S, env, Qd, hS, hE, hh, hQ⟩ => by
  refine ⟨S, env, _, hS, hE, hh, fun v S1 H1 t O q1 => ?_⟩
  obtain ⟨S2, e2, l2, a2⟩ := O.share
  refine ⟨S2, env, _, e2.le, hE.mono e2.s, q1, fun w S3 H3 u O3 q3 => ?_⟩
  obtain ⟨S4, e4, l4, a4⟩ := O3.share
  have a5 := a2.mono e4.s
  obtain ⟨m, rfl, r3⟩ := asI_at q3
  obtain ⟨n, rfl, s3⟩ := asI_at r3
  have a5 : At X.K S4 v (.int m) := a5
  have a4 : At X.K S4 w (.int n) := a4
  cases a4
  cases a5
  obtain ⟨h1, h2, h3, h4, q4⟩ := s3
  refine ⟨m, n, rfl, rfl, ⟨by omega, by omega, by omega, by omega, by omega⟩, fun x hx => ?_⟩
  rw [rgV_ups]
  exact hQ _ _ _ _ (((Out.ow e4.le hx (Ats.of_ints _)).from e4).from e2) q4
end
theorem ups_nat (n : Nat) : (ups 0 1 (n : Int).toNat) = (List.range n).map fun i : Nat => (i : Int) := by
  unfold ups
  rw [Int.toNat_natCast]
  apply List.map_congr_left
  intro i _
  omega
end W

/-! FO: chains of three, pairs of names, extend. -/
namespace W
open PySem L2 PyProof.Rows
section
variable {X : Cx} {K : PySem.W.Frag} {a b c d e : Expr} {ba bb bc bd : BT} {bm b1 b2 : BM} {pos : Pos} {S0 H0 S H S' H' : Hp} {σ : L2.St} {env : List (Option T)} {Lf : Nat → List Addr} {v : V} {t : T} {L : List Addr}
def qCh3 (f g h : F2) (ba bb bc bd : BT) : BTT := fun env Q => ba env fun x => bb env fun y => f x.d y.d fun z => asB z fun k => (k = true → bc env fun u => g y.d u.d fun z2 => asB z2 fun k2 => (k2 = true → bd env fun w => h u.d w.d fun z3 => asB z3 fun k3 => Q k3) ∧ (k2 = false → Q false)) ∧ (k = false → Q false)
theorem q_chain3 {o1 o2 o3 : CmpOp} {f g h : F2} (h1 : OpD X (compareOp o1) f) (h2 : OpD X (compareOp o2) g) (h3 : OpD X (compareOp o3) h) (ha : PB X a ba) (hb : PB X b bb) (hc : PB X c bc) (hd : PB X d bd)
    (hm : lastMarks [o1, o2, o3] [b, c, d] = false := by with_unfolding_all rfl) (he : evalEach [d] X.env = [eval d X.env] := by rfl) : PQ X (.Compare a [o1, o2, o3] [b, c, d] pos) (qCh3 f g h ba bb bc bd) := by
  obtain ⟨r1, p1, e1⟩ := h1
  obtain ⟨r2, p2, e2⟩ := h2
  obtain ⟨r3, p3, e3⟩ := h3
  refine ⟨fun pins s σ H Q I ⟨S, env, Qd, hS, hE, hh, hQ⟩ => ?_⟩
  refine isTrue_chain (thn (ha.run pins s σ H (fun x H1 => ∃ (S1 : Hp) (t : T), Ext S H S1 H1 ∧ At X.K S1 x t.d ∧ bb env fun y => f t.d y.d fun z => asB z fun k => (k = true → bc env fun u => g y.d u.d fun z2 => asB z2 fun k2 => (k2 = true → bd env fun w => h u.d w.d fun z3 => asB z3 fun k3 => Qd k3) ∧ (k2 = false → Qd false)) ∧ (k = false → Qd false)) I
    ⟨S, env, _, hS, hE, hh, fun v S1 H1 t O q => by obtain ⟨S2, x1, _, x3⟩ := O.share; exact ⟨S2, t, x1, x3, q⟩⟩) fun v s1 ⟨x, H1, I1, rx, S1, t, m1, ax, q1⟩ => ?_) hm
  refine test_link (thn (hb.run pins s1 σ H1 (fun y H2 => ∃ (S2 : Hp) (u : T), Ext S H S2 H2 ∧ At X.K S2 x t.d ∧ At X.K S2 y u.d ∧ f t.d u.d fun z => asB z fun k => (k = true → bc env fun w => g u.d w.d fun z2 => asB z2 fun k2 => (k2 = true → bd env fun w2 => h w.d w2.d fun z3 => asB z3 fun k3 => Qd k3) ∧ (k2 = false → Qd false)) ∧ (k = false → Qd false)) I1
    ⟨S1, env, _, m1.le, hE.mono m1.s, q1, fun v S2 H2 u O q => by obtain ⟨S3, x1, _, x3⟩ := O.share; exact ⟨S3, u, m1.trans x1, ax.mono x1.s, x3, q⟩⟩) fun v2 s2 ⟨y, H2, I2, ry, S2, u, m2, ax2, ay, q2⟩ => ?_)
  refine thn (p1 pins s2 σ H2 x y v v2 (fun z H3 => ∃ (k : Bool) (S3 : Hp), z = .bl k ∧ Ext S H S3 H3 ∧ At X.K S3 y u.d ∧ (k = true → bc env fun w => g u.d w.d fun z2 => asB z2 fun k2 => (k2 = true → bd env fun w2 => h w.d w2.d fun z3 => asB z3 fun k3 => Qd k3) ∧ (k2 = false → Qd false)) ∧ (k = false → Qd false)) I2 rx ry
    (e1 S2 H2 x y _ _ _ _ m2.le ax2 ay q2 fun z S3 H3 tz O q => by
      obtain ⟨S4, x1, _, x3⟩ := O.share
      obtain ⟨k, rfl, q⟩ := asB_at q
      cases x3
      exact ⟨k, S4, rfl, m2.trans x1, ay.mono x1.s, q⟩)) fun v3 s3 ⟨z, H3, I3, rz, k, S3, hz, m3, ay3, q3⟩ => ?_
  subst hz
  cases rz
  refine wpAny_truthy_bool ?_
  cases k with
  | false => exact ite_ff ⟨H3, I3, hQ _ S3 H3 m3 (q3.2 rfl)⟩
  | true =>
    refine ite_tt ?_
    have ec : evalEach [d] X.env = [eval d X.env] := he
    rw [ec]
    refine test_link (thn (hc.run pins s3 σ H3 (fun w H4 => ∃ (S4 : Hp) (tw : T), Ext S H S4 H4 ∧ At X.K S4 y u.d ∧ At X.K S4 w tw.d ∧ g u.d tw.d fun z2 => asB z2 fun k2 => (k2 = true → bd env fun w2 => h tw.d w2.d fun z3 => asB z3 fun k3 => Qd k3) ∧ (k2 = false → Qd false)) I3
      ⟨S3, env, _, m3.le, hE.mono m3.s, q3.1 rfl, fun w S4 H4 tw O q => by obtain ⟨S5, x1, _, x3⟩ := O.share; exact ⟨S5, tw, m3.trans x1, ay3.mono x1.s, x3, q⟩⟩) fun v4 s4 ⟨w, H4, I4, rw4, S4, tw, m4, ay4, aw, q4⟩ => ?_)
    refine thn (p2 pins s4 σ H4 y w v2 v4 (fun z H5 => ∃ (k2 : Bool) (S5 : Hp), z = .bl k2 ∧ Ext S H S5 H5 ∧ At X.K S5 w tw.d ∧ (k2 = true → bd env fun w2 => h tw.d w2.d fun z3 => asB z3 fun k3 => Qd k3) ∧ (k2 = false → Qd false)) I4 ry rw4
      (e2 S4 H4 y w _ _ _ _ m4.le ay4 aw q4 fun z S5 H5 tz O q => by
        obtain ⟨S6, x1, _, x3⟩ := O.share
        obtain ⟨k2, rfl, q⟩ := asB_at q
        cases x3
        exact ⟨k2, S6, rfl, m4.trans x1, aw.mono x1.s, q⟩)) fun v5 s5 ⟨z, H5, I5, rz5, k2, S5, hz, m5, aw5, q5⟩ => ?_
    subst hz
    cases rz5
    refine wpAny_truthy_bool ?_
    cases k2 with
    | false => exact ite_ff ⟨H5, I5, hQ _ S5 H5 m5 (q5.2 rfl)⟩
    | true =>
      refine ite_tt (test_last (thn (hd.run pins s5 σ H5 (fun w2 H6 => ∃ (S6 : Hp) (t2 : T), Ext S H S6 H6 ∧ At X.K S6 w tw.d ∧ At X.K S6 w2 t2.d ∧ h tw.d t2.d fun z3 => asB z3 fun k3 => Qd k3) I5
        ⟨S5, env, _, m5.le, hE.mono m5.s, q5.1 rfl, fun w2 S6 H6 t2 O q => by obtain ⟨S7, x1, _, x3⟩ := O.share; exact ⟨S7, t2, m5.trans x1, aw5.mono x1.s, x3, q⟩⟩) fun v6 s6 ⟨w2, H6, I6, rw6, S6, t2, m6, aw6, aw2, q6⟩ => ?_))
      refine thn (p3 pins s6 σ H6 w w2 v4 v6 (fun z H7 => ∃ (k3 : Bool) (S7 : Hp), z = .bl k3 ∧ Ext S H S7 H7 ∧ Qd k3) I6 rw4 rw6
        (e3 S6 H6 w w2 _ _ _ _ m6.le aw6 aw2 q6 fun z S7 H7 tz O q => by
          obtain ⟨S8, x1, _, x3⟩ := O.share
          obtain ⟨k3, rfl, q⟩ := asB_at q
          cases x3
          exact ⟨k3, S8, rfl, m6.trans x1, q⟩)) fun v7 s7 ⟨z, H7, I7, rz7, k3, S7, hz, m7, q7⟩ => ?_
      subst hz
      cases rz7
      exact wpAny_truthy_bool ⟨H7, I7, hQ _ S7 H7 m7 q7⟩
/-- a, b = x, y -/
def sPar (i j : Nat) (b1 b2 : BM) : DS := fun De env => b1 env fun t1 env1 => b2 env1 fun t2 env2 => De.nx ((env2.set i (some (.sh t1.d))).set j (some (.sh t2.d)))
theorem s_par {i j : Nat} {x y : Str} {px py pt : Pos} {kt k2 pt2} (hc : X.calm = true) (hN : X.N.Nodup) (hi : X.N[i]? = some x) (hj : X.N[j]? = some y) (hx : X.env.scope.names.lookup x = some .local) (hy : X.env.scope.names.lookup y = some .local)
    (h1 : PM X a b1) (h2 : PM X b b2) (hw : swappedStores [.Tuple [.Name x px, .Name y py] kt pt] (.Tuple [a, b] k2 pt2) X.env = pure (some [x, y])) (hij : i ≠ j := by decide)
    (hs : swapsWithSole [.Tuple [.Name x px, .Name y py] kt pt] (.Tuple [a, b] k2 pt2) pos.line X.env = pure false := by rfl)
    (hs1 : starEach [a, b] X.env = (false, eval a X.env) :: starEach [b] X.env := by rfl) (hs2 : starEach [b] X.env = (false, eval b X.env) :: starEach [] X.env := by rfl) :
    PSd X (.Assign [.Tuple [.Name x px, .Name y py] kt pt] (.Tuple [a, b] k2 pt2) pos) (sPar i j b1 b2) :=
  ps_weak (ps_par hc hN hi hj hij hx hy (pa_cons h1 (pa_cons h2 pa_nil hs2) hs1) hw hs) fun D σ H ⟨S0, H0, S, env, Lf, De, o, hd, n, b, c, r⟩ => by
  refine ⟨S0, H0, S, env, Lf, _, o, hd, fun v1 S1 H1 t1 L1 env1 Lf1 e1 o1 r1 p1 k1 q1 => ?_⟩
  obtain ⟨o1', a1, e1'⟩ := o1.shareP r1 p1
  obtain ⟨e1'', hm1⟩ : Same S (shr S1 H1 L1) ∧ True := ⟨e1.trans e1', trivial⟩
  refine ⟨S0, H0, _, env1, Lf1, _, o1', q1, fun v2 S2 H2 t2 L2 env2 Lf2 e2 o2 r2 p2 k2 q2 => ?_⟩
  obtain ⟨o2', a2, e2'⟩ := o2.shareP r2 p2
  obtain ⟨Lf3, o3, _⟩ := o2'.putx (j := i) (.sh (a1.mono (e2.trans e2'))) pend_nil
  obtain ⟨Lf4, o4, _⟩ := o3.putx (j := j) (.sh a2) pend_nil
  exact ⟨v1, v2, rfl, n _ _ _ _ Lf4 (e1''.trans (e2.trans e2')) o4 q2⟩
/-- l.extend(t), t a tuple -/
theorem ext_tup (l : Addr) (us : Array Value) (n : Nat) (b : Addr) (ws : Array Value) (m : Nat) (dd : Option Addr) (sl : Array (Option Value)) (h0 : ¬(!us.isEmpty && Builtin.List.listTooLong (us.size + ws.size)) = true) (h1 : us.size ≤ sizeLine) (h2 : us.size + ws.size ≤ sizeLine + 1) :
    Meets (Builtin.«list.extend» ⟨[.ref l, .ref b], []⟩) (fun _ R s => s.heap.get? l = some { cls := .type "list", data := .seq us n } ∧ s.heap.get? b = some { cls := .type "tuple", dict := dd, data := .seq ws m, slots := sl } ∧ R (.ok (.ret Value.none)) { s with heap := s.heap.update l (Obj.mapSeq fun x => x ++ ws) }) :=
  .of_wp fun prog w A R s h => by
    obtain ⟨hp, g, d, tk, os⟩ := s
    obtain ⟨hl, hb, h⟩ := h
    have f1 := AutoSeq1.idx_int
    have f2 := AutoSeq1.sub_tuple_tuple
    have f3 := AutoSeq1.sub_list_list
    have f4 := AutoSeq1.sub_tuple_list
    have f5 := AutoSeq1.sub_list_tuple
    have hz : (us ++ ws).size ≤ sizeLine + 1 := by rw [Array.size_append]; exact h2
    wp_walk using (wpAny_updateSeq hl rfl (hz := h1) (_hz' := hz)), AutoSeq1.wpAny_loadPart' hl, AutoSeq1.wpAny_loadPart' hb
    exact ⟨_, rfl, h⟩
def rExtT (K : PySem.W.Frag) : V → List V → Hp → VK → Prop := fun x vs H Q => ∃ l b xs zs, x = .ref l ∧ vs = [.ref b] ∧ H l = some (.lst xs) ∧ SqT K H b zs ∧ xs.length + zs.length ≤ sizeLine ∧ Q .non (upd H l (.lst (xs ++ zs)))
theorem mt_extT : MtM X "list.extend" (rExtT X.K) := by
  intro pins s σ H x vs v us Q I rx rv h
  obtain ⟨l, b, xs, zs, rfl, rfl, hH, hB, hz, q⟩ := h
  cases rx
  obtain ⟨u, rfl, ru⟩ := rv.one
  cases ru
  obtain ⟨z, its, n, r, hl, e⟩ := I.lstM hH
  obtain ⟨its2, r2, ⟨⟨cls, dd, data, sl⟩, ho, hc, n2, hd⟩, hl2⟩ := I.tuple hB
  simp only at hc hd
  subst hc hd
  have hl3 := r2.length
  have hsz : its.toArray.size + its2.toArray.size ≤ sizeLine := by rw [List.size_toArray, List.size_toArray]; omega
  refine call_meets PySem.F.slot_list_extend ⟨_, e, rfl⟩ PySem.F.entry_list_extend (PySem.F.args_list_extend_2 _ _)
    (ext_tup l its.toArray n b its2.toArray n2 dd sl (by rw [notLongL hsz, Bool.and_false]; exact Bool.false_ne_true) (by rw [List.size_toArray]; omega) (by omega)) ⟨e, ho, ?_⟩
  refine ⟨.non, _, I.lset (its' := its ++ its2) hH e (by simp) (r.append r2) ?_, rfl, q⟩
  rw [List.length_append]
  omega
/-- x.extend(t), t a tuple -/
def sExt (i : Nat) (b : BM) : DS := fun De env => isOw (nth env i) = true ∧ b env fun t env1 => match t, nth env1 i with
  | .sh (.tup es), some (.ow ds) => ds.length + es.length ≤ 100000 ∧ De.nx (env1.set i (some (.ow (ds ++ es))))
  | _, _ => False
theorem s_ext (i : Nat) {x : Str} {npos apos cpos : Pos} (hk : PM X e bm) (hN : X.N[i]? = some x := by rfl) (hv : Vis X.env.scope x := by first | exact Or.inl rfl | exact Or.inr (Or.inl rfl) | exact Or.inr (Or.inr rfl)) (hd : (x == ("__debug__" : Str)) = false := by decide)
    (hcd : (x == ("__classdict__" : Str)) = false := by decide) (hbase : attributeBase (.Name x npos) "extend" X.env (eval (.Name x npos) X.env) = eval (.Name x npos) X.env := by rfl)
    (hfew : ((backTo cpos (starEach [e] X.env)).all (fun x => !x.1) && (backToKw cpos (keywordEach [] X.env)).all (fun x => x.1.isSome) && decide (([e] : List Expr).length + ([] : List Keyword).length + (if ([] : List Keyword).isEmpty then 0 else 1) < 30)) = true := by rfl)
    (hline : (apos.endLine == cpos.line) = true := by rfl) (hs : starEach [e] X.env = (false, eval e X.env) :: starEach [] X.env := by rfl) (hplain : (backTo cpos (starEach [] X.env)).any (·.1) = false := by rfl) :
    PSd X (.Expr (.Call (.Attribute (.Name x npos) "extend" apos) [e] [] cpos) pos) (sExt i bm) :=
  ps_weak (ps_expr (pe_bm PySem.F.plainAttrs_list PySem.F.slot_list_extend PySem.F.type_list_extend mt_extT (pe_var hN hv hd hcd) (pa_cons hk pa_nil hs) hbase hfew hline hs hplain) rfl) fun D σ H ⟨S0, H0, S, env, Lf, De, o, ⟨hw, hd⟩, n, b, c, r⟩ => by
  obtain ⟨p, xs, h1, h2⟩ := isOw_lst o hw
  refine ⟨.ref p, h1, .inl ⟨rfl, xs, .inl (.inl h2)⟩, S0, H0, S, env, Lf, _, o, hd, fun v S1 H1 t L env' Lf' e o' r' pe _ q => ?_⟩
  cases r' with
  | sh a =>
    cases a with
    | @tup b2 zs es hb2 hzs =>
      cases e3 : nth env' i with
      | none => rw [e3] at q; exact q.elim
      | some u =>
        rw [e3] at q
        cases u with
        | ow ds =>
          obtain ⟨hl, q⟩ := q
          obtain ⟨p2, ys, g1, g2, g3, g4, g5⟩ := o'.owAt e3
          rw [h1] at g1
          cases g1
          refine ⟨p, b2, ys, zs, rfl, rfl, g2, same_t o'.ext.le hb2, by rw [g3.length, hzs.length]; exact line_le hl, ?_⟩
          exact n _ _ σ _ Lf' e (o'.writeOw g5 h1 g4 (g3.append hzs)) q
        | _ => exact q.elim
    | _ => exact q.elim
  | _ => exact q.elim
end
end W

/-! FP: list(zip(a, b)): a list of new pairs. -/
namespace W
open PySem L2 PyProof.Rows
section
variable {prog : Program} {w : World} {A : Around} {E : Value → Shared → Prop} {s : Shared} {R : Result → Shared → Prop} {z TI TO i1 i2 l1 l2 S : Addr} {xs ys : Array Value}
/-- the zip before its turn i; the list at S is none of its things -/
def ZSt (z TI TO i1 i2 l1 l2 S : Addr) (xs ys : Array Value) (i : Nat) (h : Heap) : Prop :=
  IsPair h TI (.ref i1) (.ref i2) ∧ h.IsListIter i1 l1 i ∧ h.IsListIter i2 l2 i ∧ h.IsList l1 xs ∧ h.IsList l2 ys ∧ ((IsZip h z TI TO .none ∧ ∃ a b, IsPair h TO a b) ∨ ∃ T f oT, IsZipHeld h z TI TO T f ∧ h.get? T = some oT ∧ T ≠ z ∧ T ≠ i1 ∧ T ≠ i2 ∧ T ≠ S)
theorem ZSt.keep {i : Nat} {h h' : Heap} (st : ZSt z TI TO i1 i2 l1 l2 S xs ys i h) (hS : S ≠ z ∧ S ≠ TI ∧ S ≠ TO ∧ S ≠ i1 ∧ S ≠ i2 ∧ S ≠ l1 ∧ S ≠ l2) (k : ∀ b o, b ≠ S → h.get? b = some o → h'.get? b = some o) : ZSt z TI TO i1 i2 l1 l2 S xs ys i h' := by
  obtain ⟨a1, a2, a3, a4, a5, a6, a7⟩ := hS
  obtain ⟨t1, t2, t3, t4, t5, t6⟩ := st
  refine ⟨k _ _ a2.symm t1, t2.at fun o e => k _ o a4.symm e, t3.at fun o e => k _ o a5.symm e, t4.at fun o e => k _ o a6.symm e, t5.at fun o e => k _ o a7.symm e, ?_⟩
  rcases t6 with ⟨q1, a, b, q2⟩ | ⟨T, f, oT, q1, q2, r1, r2, r3, r4⟩
  · exact .inl ⟨k _ _ a1.symm q1, a, b, k _ _ a3.symm q2⟩
  · exact .inr ⟨T, f, oT, k _ _ a1.symm q1, k _ _ r4 q2, r1, r2, r3, r4⟩
theorem zst_item {i : Nat} {x y : Value} {Q : Option Value → Shared → Prop} (D : ZipApart z TI TO i1 i2 l1 l2) (hS : S < s.heap.objs.size) (st : ZSt z TI TO i1 i2 l1 l2 S xs ys i s.heap) (hx : xs[i]? = some x) (hy : ys[i]? = some y)
    (hQ : ∀ h', ZSt z TI TO i1 i2 l1 l2 S xs ys (i + 1) h' → IsPair h' s.heap.objs.size x y → (∀ c o, c ≠ z → c ≠ TO → c ≠ i1 → c ≠ i2 → s.heap.get? c = some o → h'.get? c = some o) → Q (some (.ref s.heap.objs.size)) { s with heap := h' }) :
    wpAny (model prog w) A (pyNext (.ref z)) Q E s := by
  obtain ⟨t1, t2, t3, t4, t5, t6⟩ := st
  have far : ∀ {c o}, s.heap.get? c = some o → s.heap.objs.size ≠ c := fun e => Nat.ne_of_gt (Heap.lt_size e)
  have n1 : s.heap.objs.size ≠ i1 := by obtain ⟨_, e, _⟩ := t2; exact far e
  have n2 : s.heap.objs.size ≠ i2 := by obtain ⟨_, e, _⟩ := t3; exact far e
  rcases t6 with ⟨q1, a, b, q2⟩ | ⟨T, f, oT, q1, q2, r1, r2, r3, r4⟩
  · refine wpAny_pyNext_zip_item D q1 t1 q2 t2 t3 t4 t5 hx hy fun h' a1 a2 a3 a4 a5 a6 hk => hQ h' ⟨hk _ _ D.TIz D.TITO D.TIi1 D.TIi2 t1, a3, a4, t4.at fun o e => hk _ o D.l1z D.l1TO D.l1i1 D.l1i2 e, t5.at fun o e => hk _ o D.l2z D.l2TO D.l2i1 D.l2i2 e, .inr ⟨_, false, _, a1, a5, far q1, n1, n2, Nat.ne_of_gt hS⟩⟩ a5 hk
  · refine wpAny_pyNext_zip_item_held D q1 q2 t1 t2 t3 t4 t5 hx hy fun h' a1 a3 a4 a5 a6 hk => hQ h' ⟨hk _ _ D.TIz D.TIi1 D.TIi2 t1, a3, a4, t4.at fun o e => hk _ o D.l1z D.l1i1 D.l1i2 e, t5.at fun o e => hk _ o D.l2z D.l2i1 D.l2i2 e, .inr ⟨T, true, oT, a1, hk _ _ r1 r2 r3 q2, r1, r2, r3, r4⟩⟩ a5 fun c o c1 _ c3 c4 e => hk c o c1 c3 c4 e
theorem zst_end {i : Nat} {Q : Option Value → Shared → Prop} (hh : A.handled = none) (D : ZipApart z TI TO i1 i2 l1 l2) (st : ZSt z TI TO i1 i2 l1 l2 S xs ys i s.heap) (hx : xs[i]? = none ∨ ys[i]? = none)
    (hQ : ∀ h', (∀ c o, c ≠ z → c ≠ TO → c ≠ i1 → c ≠ i2 → s.heap.get? c = some o → h'.get? c = some o) → Q none { s with heap := h' }) : wpAny (model prog w) A (pyNext (.ref z)) Q E s := by
  obtain ⟨t1, t2, t3, t4, t5, t6⟩ := st
  rcases t6 with ⟨q1, a, b, q2⟩ | ⟨T, f, oT, q1, q2, r1, r2, r3, r4⟩
  · exact wpAny_pyNext_zip_end hh D q1 t1 q2 t2 t3 t4 t5 hx hQ
  · exact wpAny_pyNext_zip_end_held hh D q1 q2 t1 t2 t3 t4 t5 hx fun h' hk => hQ h' fun c o c1 _ c3 c4 e => hk c o c1 c3 c4 e
/-- the pairs that were laid -/
structure Laid (xs ys : Array Value) (lo : Addr) (h : Heap) (as : List Addr) : Prop where
  lo : ∀ a ∈ as, lo ≤ a
  nd : as.Nodup
  pair : ∀ (j : Nat) (a : Addr), as[j]? = some a → ∃ x y, xs[j]? = some x ∧ ys[j]? = some y ∧ IsPair h a x y
theorem zip_loop (hh : A.handled = none) (D : ZipApart z TI TO i1 i2 l1 l2) (hS : S ≠ z ∧ S ≠ TI ∧ S ≠ TO ∧ S ≠ i1 ∧ S ≠ i2 ∧ S ≠ l1 ∧ S ≠ l2) (lo : Addr) (hlo : S < lo ∧ z < lo ∧ TO < lo ∧ i1 < lo ∧ i2 < lo) (hn : min xs.size ys.size ≤ sizeLine) (res : Value) {h0 : Heap}
    (hR : ∀ h' acc c as, (∀ b o, b < lo → b ≠ S → b ≠ z → b ≠ TO → b ≠ i1 → b ≠ i2 → h0.get? b = some o → h'.get? b = some o) → h'.get? S = some { cls := .type "list", data := .seq acc c } → as.length = min xs.size ys.size → Laid xs ys lo h' as → acc.toList = as.map Value.ref → R (.ok (.ret res)) { s with heap := h' }) :
    ∀ (k i : Nat) (h : Heap) (c : Nat) (acc : Array Value) (as : List Addr), min xs.size ys.size - i = k → i ≤ min xs.size ys.size → ZSt z TI TO i1 i2 l1 l2 S xs ys i h → (∀ b o, b < lo → b ≠ S → b ≠ z → b ≠ TO → b ≠ i1 → b ≠ i2 → h0.get? b = some o → h.get? b = some o) →
      h.get? S = some { cls := .type "list", data := .seq acc c } → acc.toList = as.map Value.ref → as.length = i → Laid xs ys lo h as → lo ≤ h.objs.size → codeAny (model prog w) A (.builtin "list.extend.loop" ⟨[.ref S, .ref z, res], []⟩) R { s with heap := h } := by
  intro k
  induction k with
  | zero =>
    intro i h c acc as hk hi st hkeep hSl hacc hal hL hls
    have hi2 : i = min xs.size ys.size := by omega
    refine codeAny_builtin (R := R) PySem.F.entry_extend_loop (?_ : wpAny _ _ _ _ _ _)
    rw [Around.under_plainId (id := "list.extend.loop") PySem.F.plain_extend_loop _]
    show wpAny _ A.in1 (pyNext (.ref z) >>= fun _ => _) _ _ _
    have hend : xs[i]? = none ∨ ys[i]? = none := by
      rcases Nat.le_total xs.size ys.size with q | q
      · exact .inl (Array.getElem?_eq_none (by omega))
      · exact .inr (Array.getElem?_eq_none (by omega))
    refine wpAny_bind (zst_end (s := { s with heap := h }) (A := A.in1) hh D st hend fun h' hk' => wpAny_pure (hR h' acc c as (fun b o b0 b1 b2 b3 b4 b5 e => hk' b o b2 b3 b4 b5 (hkeep b o b0 b1 b2 b3 b4 b5 e)) (hk' S _ hS.1 hS.2.2.1 hS.2.2.2.1 hS.2.2.2.2.1 hSl) (by omega) ⟨hL.lo, hL.nd, fun j a hj => ?_⟩ hacc))
    obtain ⟨x, y, e1, e2, e3⟩ := hL.pair j a hj
    have ha := hL.lo a (List.mem_of_getElem? hj)
    exact ⟨x, y, e1, e2, hk' a _ (Nat.ne_of_gt (Nat.lt_of_lt_of_le hlo.2.1 ha)) (Nat.ne_of_gt (Nat.lt_of_lt_of_le hlo.2.2.1 ha)) (Nat.ne_of_gt (Nat.lt_of_lt_of_le hlo.2.2.2.1 ha)) (Nat.ne_of_gt (Nat.lt_of_lt_of_le hlo.2.2.2.2 ha)) e3⟩
  | succ k ih =>
    intro i h c acc as hk hi st hkeep hSl hacc hal hL hls
    have hix : i < xs.size := by omega
    have hiy : i < ys.size := by omega
    have hsz : acc.size = i := by rw [← Array.length_toList, hacc, List.length_map, hal]
    refine codeAny_builtin (R := R) PySem.F.entry_extend_loop (?_ : wpAny _ _ _ _ _ _)
    rw [Around.under_plainId (id := "list.extend.loop") PySem.F.plain_extend_loop _]
    show wpAny _ A.in1 (pyNext (.ref z) >>= fun _ => _) _ _ _
    refine wpAny_bind (zst_item (s := { s with heap := h }) (A := A.in1) D (Heap.lt_size hSl) st (Array.getElem?_eq_getElem hix) (Array.getElem?_eq_getElem hiy) fun h' st' hp hk' => ?_)
    dsimp only at hp hk' ⊢
    have hS' := hk' S _ hS.1 hS.2.2.1 hS.2.2.2.1 hS.2.2.2.2.1 hSl
    have hSh : S < h.objs.size := Heap.lt_size hSl
    have up : ∀ b o, b ≠ S → h'.get? b = some o → (h'.update S (Obj.mapSeq (·.push (Value.ref h.objs.size)))).get? b = some o := fun b o hb e => (Heap.get?_update_other _ _ (Ne.symm hb)).trans e
    show wpAny _ A.in1 (updateSeq S (·.push (Value.ref h.objs.size)) >>= fun _ => _) _ _ _
    refine wpAny_bind (wpAny_updateSeq hS' rfl (wpAny_pure ⟨plainId_quiet PySem.F.plain_extend_loop _, ih (i + 1) _ _ (acc.push (Value.ref h.objs.size)) (as ++ [h.objs.size]) (by omega) (by omega) (st'.keep hS up) ?_ (Heap.get?_update_self _ hS' rfl) (by rw [Array.toList_push, hacc, List.map_append]; rfl) (by rw [List.length_append, hal]; rfl) ⟨?_, ?_, ?_⟩ ?_⟩) (by omega) (by show (acc.push (Value.ref h.objs.size)).size ≤ sizeLine + 1; rw [Array.size_push]; omega))
    · exact fun b o b0 b1 b2 b3 b4 b5 e => up b o b1 (hk' b o b2 b3 b4 b5 (hkeep b o b0 b1 b2 b3 b4 b5 e))
    · intro a ha
      rcases List.mem_append.mp ha with ha | ha
      · exact hL.lo a ha
      · rw [List.mem_singleton.mp ha]
        exact hls
    · refine List.nodup_append.mpr ⟨hL.nd, by simp, fun a ha b hb => ?_⟩
      rw [List.mem_singleton] at hb
      obtain ⟨j, hj⟩ := List.mem_iff_getElem?.mp ha
      obtain ⟨x, y, _, _, e3⟩ := hL.pair j a hj
      rw [hb]
      exact Nat.ne_of_lt (Heap.lt_size e3)
    · intro j a hj
      by_cases hja : j < as.length
      · rw [List.getElem?_append_left hja] at hj
        obtain ⟨x, y, e1, e2, e3⟩ := hL.pair j a hj
        have ha := hL.lo a (List.mem_of_getElem? hj)
        exact ⟨x, y, e1, e2, up a _ (Nat.ne_of_gt (Nat.lt_of_lt_of_le hlo.1 ha)) (hk' a _ (Nat.ne_of_gt (Nat.lt_of_lt_of_le hlo.2.1 ha)) (Nat.ne_of_gt (Nat.lt_of_lt_of_le hlo.2.2.1 ha)) (Nat.ne_of_gt (Nat.lt_of_lt_of_le hlo.2.2.2.1 ha)) (Nat.ne_of_gt (Nat.lt_of_lt_of_le hlo.2.2.2.2 ha)) e3)⟩
      · have hj2 : j = as.length := by
          have := (List.getElem?_eq_some_iff.mp hj).1
          rw [List.length_append, List.length_singleton] at this
          omega
        subst hj2
        have hb : h.objs.size = a := by simpa using hj
        subst hb
        rw [hal]
        exact ⟨_, _, Array.getElem?_eq_getElem hix, Array.getElem?_eq_getElem hiy, up _ _ (Nat.ne_of_gt hSh) hp⟩
    · have hlt : h.objs.size < h'.objs.size := Heap.lt_size hp
      have e1 : (h'.update S (Obj.mapSeq (·.push (Value.ref h.objs.size)))).get? h.objs.size = _ := up _ _ (Nat.ne_of_gt hSh) hp
      exact Nat.le_trans hls (Nat.le_of_lt (Heap.lt_size e1))
theorem zip_no_len : typeLookup (.type "zip") "__len__" = pure none := by rw [typeLookup_type, builtinLookup_eq_fast]; kernel_rfl
theorem zip_no_hint : typeLookup (.type "zip") "__length_hint__" = pure none := by rw [typeLookup_type, builtinLookup_eq_fast]; kernel_rfl
theorem list_zip {Q : Value → Shared → Prop} (hh : A.handled = none) (D : ZipApart z TI TO i1 i2 l1 l2) (hz : IsZip s.heap z TI TO .none) (hTI : IsPair s.heap TI (.ref i1) (.ref i2)) (hTO : ∃ a b, IsPair s.heap TO a b) (h1 : s.heap.IsListIter i1 l1 0) (h2 : s.heap.IsListIter i2 l2 0) (hl1 : s.heap.IsList l1 xs) (hl2 : s.heap.IsList l2 ys) (hn : min xs.size ys.size ≤ sizeLine)
    (hQ : ∀ h' acc c as, (∀ b o, b ≠ z → b ≠ TO → b ≠ i1 → b ≠ i2 → s.heap.get? b = some o → h'.get? b = some o) → h'.get? s.heap.objs.size = some { cls := .type "list", data := .seq acc c } → as.length = min xs.size ys.size → Laid xs ys (s.heap.objs.size + 1) h' as → acc.toList = as.map Value.ref → Q (.ref s.heap.objs.size) { s with heap := h' }) :
    wpAny (model prog w) A (call (.type "list") [.ref z]) Q E s := by
  obtain ⟨a, b, hTO⟩ := hTO
  have zl : z < s.heap.objs.size := Heap.lt_size hz
  have TIl : TI < s.heap.objs.size := Heap.lt_size hTI
  have TOl : TO < s.heap.objs.size := Heap.lt_size hTO
  have i1l : i1 < s.heap.objs.size := by obtain ⟨_, e, _⟩ := h1; exact Heap.lt_size e
  have i2l : i2 < s.heap.objs.size := by obtain ⟨_, e, _⟩ := h2; exact Heap.lt_size e
  have l1l : l1 < s.heap.objs.size := by obtain ⟨_, e, _⟩ := hl1; exact Heap.lt_size e
  have l2l : l2 < s.heap.objs.size := by obtain ⟨_, e, _⟩ := hl2; exact Heap.lt_size e
  have far : s.heap.objs.size ≠ z ∧ s.heap.objs.size ≠ TI ∧ s.heap.objs.size ≠ TO ∧ s.heap.objs.size ≠ i1 ∧ s.heap.objs.size ≠ i2 ∧ s.heap.objs.size ≠ l1 ∧ s.heap.objs.size ≠ l2 := ⟨Nat.ne_of_gt zl, Nat.ne_of_gt TIl, Nat.ne_of_gt TOl, Nat.ne_of_gt i1l, Nat.ne_of_gt i2l, Nat.ne_of_gt l1l, Nat.ne_of_gt l2l⟩
  have low : ∀ {q}, q < s.heap.objs.size → q < s.heap.objs.size + 1 := fun e => Nat.lt_succ_of_lt e
  have st0 : ∀ S, ZSt z TI TO i1 i2 l1 l2 S xs ys 0 s.heap := fun S => ⟨hTI, h1, h2, hl1, hl2, .inl ⟨hz, a, b, hTO⟩⟩
  refine callType_codes (Q₁ := fun obj t => obj = .ref s.heap.objs.size ∧ t = { s with heap := s.heap.push { cls := .type "list", data := .seq #[] } }) PySem.F.called_list (PySem.F.typeCall_list_1 _) PySem.F.entry_list_init (code_list_new _ ⟨rfl, rfl⟩) fun obj t h3 => ?_
  obtain ⟨rfl, rfl⟩ := h3
  have hS : (s.heap.push { cls := .type "list", data := .seq #[] }).get? s.heap.objs.size = some { cls := .type "list", data := .seq #[] } := Heap.get?_push_size _ rfl
  refine ⟨⟨_, hS, rfl⟩, PySem.F.args_list_init_2 _ _, ?_⟩
  show wpAny _ A.in1.in1 (do let old ← Builtin.List.listItems (.ref s.heap.objs.size); Builtin.List.listUpdate (.ref s.heap.objs.size) (fun _ => #[]); letGo old.toList.reverse; Builtin.List.listExtendWith (.ref s.heap.objs.size) (.ref z) .none) _ _ _
  refine wpAny_bind ?_
  unfold Builtin.List.listItems
  refine wpAny_bind (wpAny_seqItems hS rfl (wpAny_pure ?_))
  show wpAny _ A.in1.in1 (updateSeq s.heap.objs.size (fun _ => #[]) >>= fun _ => letGo (#[] : Array Value).toList.reverse >>= fun _ => Builtin.List.listExtendWith (.ref s.heap.objs.size) (.ref z) .none) _ _ _
  refine wpAny_bind (wpAny_updateSeq hS rfl ?_)
  have hS2 := Heap.get?_update_self (Obj.mapSeq (fun _ => (#[] : Array Value))) hS rfl
  have oth : ∀ b o, b ≠ s.heap.objs.size → s.heap.get? b = some o → ((s.heap.push { cls := .type "list", data := .seq #[] }).update s.heap.objs.size (Obj.mapSeq (fun _ => (#[] : Array Value)))).get? b = some o := fun b o hb e => (Heap.get?_update_other _ _ (Ne.symm hb)).trans (Heap.get?_push_of_some _ e)
  have st1 := (st0 s.heap.objs.size).keep far oth
  have zs1 : ((s.heap.push { cls := .type "list", data := .seq #[] }).update s.heap.objs.size (Obj.mapSeq (fun _ => (#[] : Array Value)))).objs.size = s.heap.objs.size + 1 := by rw [Heap.size_update, Heap.size_push]
  refine wpAny_bind (wpAny_letGo ?_)
  generalize (s.heap.push { cls := .type "list", data := .seq #[] }).update s.heap.objs.size (Obj.mapSeq (fun _ => (#[] : Array Value))) = h1' at hS2 oth st1 zs1 ⊢
  have hz1 : IsZip h1' z TI TO .none := oth z _ far.1.symm hz
  have loop : ∀ (h : Heap) (c0 : Nat), (∀ b o, b ≠ s.heap.objs.size → h1'.get? b = some o → h.get? b = some o) → h.get? s.heap.objs.size = some { cls := .type "list", data := .seq #[] c0 } → s.heap.objs.size + 1 ≤ h.objs.size →
      codeAny (model prog w) A.in1 (.builtin "list.extend.loop" ⟨[.ref s.heap.objs.size, .ref z, .none], []⟩) (wants (fun r s₂ => r = Value.none ∧ Q (Value.ref s.heap.objs.size) s₂) E) { s with heap := h } := fun h c0 k2 hS3 hsz =>
    zip_loop (s := s) (A := A.in1) (h0 := s.heap) hh D far (s.heap.objs.size + 1) ⟨Nat.lt_succ_self _, low zl, low TOl, low i1l, low i2l⟩ hn .none
      (fun h' acc c as kk hS4 hl hL hacc => ⟨rfl, hQ h' acc c as (fun b o b1 b2 b3 b4 e => kk b o (low (Heap.lt_size e)) (Nat.ne_of_lt (Heap.lt_size e)) b1 b2 b3 b4 e) hS4 hl hL hacc⟩)
      (min xs.size ys.size) 0 h c0 #[] [] (Nat.sub_zero _) (Nat.zero_le _) (st1.keep far k2) (fun b o _ b1 _ _ _ _ e => k2 b o b1 (oth b o b1 e)) hS3 rfl rfl ⟨fun _ m => (by cases m), List.nodup_nil, fun j a hj => (by simp at hj)⟩ hsz
  have tz : ∀ h' : Heap, IsZip h' z TI TO .none → ({ s with heap := h' } : Shared).TypeIs (.ref z) "zip" := fun _ e => ⟨_, e, rfl⟩
  unfold Builtin.List.listExtendWith
  refine wpAny_bind (wpAny_typeOf (tz _ hz1) ?_)
  have q1 : Builtin.List.listSameRef (.ref s.heap.objs.size) (.ref z) = false := by simp [Builtin.List.listSameRef, far.1]
  have q2 : (Value.type "zip" == Value.type "list") = false := by decide
  have q3 : (Value.type "zip" == Value.type "tuple") = false := by decide
  simp only [q1, q2, q3, Bool.or_false, Bool.false_eq_true, if_false]
  refine wpAny_bind (wpAny_pyIter_zip hz1 ?_)
  refine wpAny_bind (wpAny_holding ?_)
  unfold Builtin.List.listLengthHint
  refine wpAny_bind (wpAny_specialOf (tz _ hz1) zip_no_len ?_)
  show wpAny _ _ (specialOf (Value.ref z) (Str.ofString "__length_hint__") >>= _) _ _ _
  refine wpAny_bind (wpAny_specialOf (tz _ hz1) zip_no_hint (wpAny_pure ?_))
  refine wpAny_ite_split (fun _ => ?_) fun _ => wpAny_pure ⟨plainId_quiet PySem.F.plain_extend_loop _, loop h1' _ (fun _ _ _ e => e) hS2 (Nat.le_of_eq zs1.symm)⟩
  refine wpAny_bind (wpAny_rule (wpAny_bind (?_ : wpAny _ _ (updateSeq s.heap.objs.size (·.push .none) >>= fun _ => updateSeq s.heap.objs.size (·.pop)) _ _ _)))
  refine wpAny_bind (wpAny_updateSeq hS2 rfl ?_)
  have hS3 := Heap.get?_update_self (Obj.mapSeq (·.push Value.none)) hS2 rfl
  refine wpAny_updateSeq (hz := by seq_fits) hS3 rfl (wpAny_pure ⟨plainId_quiet PySem.F.plain_extend_loop _, loop _ _ (fun b o hb e => ?_) (Heap.get?_update_self (Obj.mapSeq (·.pop)) hS3 rfl) ?_⟩)
  · exact (Heap.get?_update_other _ _ (Ne.symm hb)).trans ((Heap.get?_update_other _ _ (Ne.symm hb)).trans e)
  · show _ ≤ ((h1'.update _ _).update _ _).objs.size
    rw [Heap.size_update, Heap.size_update, zs1]
    exact Nat.le_refl _
end
/-! ### over the hand layer -/
def updT : Hp → List Addr → List (List V) → Hp
  | H, a :: as, p :: ps => updT (upd H a (.tup p)) as ps
  | H, _, _ => H
theorem updT_ne : ∀ {as : List Addr} {ps : List (List V)} {H : Hp} {b : Addr}, b ∉ as → updT H as ps b = H b
  | [], [], _, _, _ => rfl
  | [], _ :: _, _, _, _ => rfl
  | _ :: _, [], _, _, _ => rfl
  | a :: as, p :: ps, H, b, h => by
    rw [updT, updT_ne (fun m => h (List.mem_cons_of_mem _ m)), upd_ne fun z => h (by rw [z]; simp)]
theorem updT_at : ∀ {as : List Addr} {ps : List (List V)} {H : Hp} {j : Nat} {a : Addr} {p : List V}, as.Nodup → as[j]? = some a → ps[j]? = some p → updT H as ps a = some (.tup p)
  | [], _, _, j, _, _, _, h, _ => by simp at h
  | _ :: _, [], _, j, _, _, _, _, h => by simp at h
  | a :: as, p :: ps, H, 0, _, _, nd, h1, h2 => by
    simp at h1 h2
    subst h1 h2
    rw [updT, updT_ne (List.nodup_cons.mp nd).1, upd_same]
  | a :: as, p :: ps, H, j + 1, _, _, nd, h1, h2 => by
    rw [updT]
    exact updT_at (List.nodup_cons.mp nd).2 (by simpa using h1) (by simpa using h2)
section
variable {P : Program} {w : World} {H : Hp} {h : Heap}
theorem hok_add {a : Addr} {o : HO} (x : HOk P w H h) (hn : H a = none) (new : ObjOk P w (upd H a o) h a o) : HOk P w (upd H a o) h := fun b u e => by
  by_cases hb : b = a
  · subst hb; rw [upd_same] at e; cases e; exact new
  · rw [upd_ne hb] at e
    exact (x b u e).stay (fun c v _ q => q) (fun c q => by rw [upd_ne (ne_of_none q hn)]; exact q) fun c xs q => by rw [upd_ne (ne_of_none q hn)]; exact q
theorem hok_tups : ∀ {as : List Addr} {ps : List (List V)} {H : Hp}, HOk P w H h → as.Nodup → (∀ a ∈ as, H a = none) → (∀ (j : Nat) (a : Addr) (p : List V), as[j]? = some a → ps[j]? = some p → ∃ its : List Value, p.length ≤ sizeLine ∧ Vals p its ∧ IsTup h a its.toArray) → HOk P w (updT H as ps) h
  | [], [], _, x, _, _, _ => x
  | [], _ :: _, _, x, _, _, _ => x
  | _ :: _, [], _, x, _, _, _ => x
  | a :: as, p :: ps, H, x, nd, fr, k => by
    rw [updT]
    obtain ⟨its, g1, g2, g3⟩ := k 0 a p rfl rfl
    refine hok_tups (hok_add x (fr a (by simp)) ⟨g1, its, g2, g3⟩) (List.nodup_cons.mp nd).2 (fun b m => ?_) fun j b q h1 h2 => k (j + 1) b q (by simpa using h1) (by simpa using h2)
    rw [upd_ne fun z : b = a => (List.nodup_cons.mp nd).1 (by subst z; exact m)]
    exact fr b (List.mem_cons_of_mem _ m)
theorem un_ext {fs ex : List Addr} {H' : Hp} {h' : Heap} (x : HOk P w H h) (k : ∀ b u, h.get? b = some u → h'.get? b = some u) (e : ∀ b, b < h.objs.size → H' b = H b) : Un fs ex H H' h h' where
  keep := fun b u q _ _ _ => k b u q
  slot := fun b u q _ _ _ => ⟨u.slots, k b u q⟩
  free := fun b u q n _ => (e b (Heap.lt_size q)).trans n
  there := fun b u q _ => ⟨u, k b u q⟩
  tups := fun b xs q => (e b (x.lt q)).trans q
  frzs := fun b u xs q => (e b (x.lt q)).trans q
  tbls := fun b ps q => ⟨#[], by rw [e b (x.lt q), q]; simp⟩
end
section
variable {X : Cx} {a b : Expr} {ta : TA} {p p2 pos q : Pos}
def tLz (K : PySem.W.Frag) (ta : TA) : TE := fun σ H Q => ta σ H fun vs H1 => ∃ a b xs ys, vs = [.ref a, .ref b] ∧ SqL K H1 a xs ∧ SqL K H1 b ys ∧ ∀ (as : List Addr) (l : Addr), as.length = min xs.length ys.length → as.Nodup → l ∉ as → (∀ c ∈ as, H1 c = none) → H1 l = none → Q (.ref l) (upd (updT H1 as (List.zipWith (fun x y => [x, y]) xs ys)) l (.lst (as.map V.ref)))
theorem vals_refs : ∀ as : List Addr, Vals (as.map V.ref) (as.map Value.ref)
  | [] => .nil
  | a :: as => .cons rfl (vals_refs as)
theorem pe_lz (hc : X.calm = true) (hg : Gl X "list") (hm : X.mg "list" = none) (hg2 : Gl X "zip") (hm2 : X.mg "zip" = none) (ha : PA X [a, b] ta) (hs : starEach [a, b] X.env = (false, eval a X.env) :: starEach [b] X.env := by rfl) (hpl : (backTo q (starEach [b] X.env)).any (·.1) = false := by rfl)
    (na : starEach [.Call (.Name "zip" p2) [a, b] [] q] X.env = (false, eval (.Call (.Name "zip" p2) [a, b] [] q) X.env) :: starEach [] X.env := by rfl) : PE X (.Call (.Name "list" p) [.Call (.Name "zip" p2) [a, b] [] q] [] pos) (tLz X.K ta) := by
  refine ⟨fun pins s σ H Q I h => ?_⟩
  refine Call_ (ld_blt I hg hm PyProof.Rows.boot_list (PyProof.Rows.callWith_type1 (PyProof.Rows.args_cons ?_ na) na))
  refine Call_ (ld_blt I hg2 hm2 PyProof.Rows.boot_zip (PyProof.Rows.callWith_type1 (thn (ha.run q pins s σ H _ I h) fun us s1 ⟨vs, H1, I1, r1, q1⟩ => ?_) hs hpl))
  obtain ⟨a, b, xs, ys, ex, hx, hy, q1⟩ := q1
  subst ex
  cases r1 with
  | cons r rr =>
    cases rr with
    | cons r' rr =>
      cases rr
      cases r
      cases r'
      obtain ⟨its, rv, p1, z1⟩ := I1.list hx
      obtain ⟨its2, rv2, p2, z2⟩ := I1.list hy
      have e1 := rv.length
      have e2 := rv2.length
      refine call_zip_2 p1.isList p2.isList fun h' hz hTI hTO h1 h2 hsz hk => PyProof.Rows.args_nil ?_
      refine list_zip (s := { s1 with heap := h' }) (xs := its.toArray) (ys := its2.toArray) (I1.ok.hd hc) (PySem.W.ktu_apart s1.heap.objs.size a b p1.lt p2.lt) hz hTI ⟨_, _, hTO⟩ h1 h2 (p1.isList.at fun o e => hk _ o e) (p2.isList.at fun o e => hk _ o e) (by rw [List.size_toArray, List.size_toArray]; omega) fun h2' acc c as kk hl hal hL hacc => ?_
      have keep : ∀ b o, s1.heap.get? b = some o → h2'.get? b = some o := fun b o e => by
        have lb := Heap.lt_size e
        have ne : ∀ k, b ≠ s1.heap.objs.size + k := fun k => Nat.ne_of_lt (Nat.lt_of_lt_of_le lb (Nat.le_add_right _ _))
        exact kk b o (ne 4) (ne 3) (ne 0) (ne 1) (hk b o e)
      have big : s1.heap.objs.size ≤ h'.objs.size := by rw [hsz]; exact Nat.le_add_right _ _
      have frl : H1 h'.objs.size = none := I1.hok.fresh big
      have fra : ∀ c ∈ as, H1 c = none := fun c m => I1.hok.fresh (Nat.le_trans big (Nat.le_trans (Nat.le_succ _) (hL.lo c m)))
      have nl : h'.objs.size ∉ as := fun m => absurd (hL.lo _ m) (Nat.not_le.mpr (Nat.lt_succ_self _))
      have hal2 : as.length = min xs.length ys.length := by rw [hal, List.size_toArray, List.size_toArray, e1, e2]
      refine ⟨.ref h'.objs.size, upd (updT H1 as (List.zipWith (fun x y => [x, y]) xs ys)) h'.objs.size (.lst (as.map V.ref)), ?_, rfl, q1 as h'.objs.size hal2 hL.nd nl fra frl⟩
      refine I1.un (t' := s1.toks) (un_ext I1.hok keep fun b hb => ?_) (hok_add (hok_tups (I1.hok.kept keep) hL.nd fra fun j c p h3 h4 => ?_) ?_ ⟨?_, as.map Value.ref, c, vals_refs as, ?_⟩)
      · rw [upd_ne (Nat.ne_of_lt (Nat.lt_of_lt_of_le hb big)), updT_ne]
        exact fun m => absurd (hL.lo _ m) (Nat.not_le.mpr (Nat.lt_succ_of_lt (Nat.lt_of_lt_of_le hb big)))
      · obtain ⟨x, y, g1, g2, g3⟩ := hL.pair j c h3
        rw [List.getElem?_zipWith] at h4
        have g1' : its[j]? = some x := by simpa using g1
        have g2' : its2[j]? = some y := by simpa using g2
        cases w1 : xs[j]? with
        | none => rw [w1] at h4; cases h4
        | some vx =>
          cases w2 : ys[j]? with
          | none => rw [w1, w2] at h4; cases h4
          | some vy =>
            rw [w1, w2] at h4
            have h5 : [vx, vy] = p := Option.some.inj h4
            subst h5
            obtain ⟨u1, k1, k2⟩ := rv.get w1
            obtain ⟨u2, k3, k4⟩ := rv2.get w2
            rw [g1'] at k1
            rw [g2'] at k3
            cases k1
            cases k3
            exact ⟨[x, y], by show 2 ≤ sizeLine; decide, .cons k2 (.cons k4 .nil), _, g3, rfl, 0, rfl⟩
      · rw [updT_ne nl]
        exact frl
      · rw [List.length_map]
        omega
      · rw [show (as.map Value.ref).toArray = acc by rw [← hacc]]
        exact hl
end
/-! ### over data -/
section
variable {X : Cx} {K : PySem.W.Frag} {a b : Expr} {ba bb : BT} {p p2 pos q : Pos} {S H : Hp}
theorem ats_of : ∀ {vs : List V} {ds : List D}, vs.length = ds.length → (∀ (j : Nat) (v : V) (d : D), vs[j]? = some v → ds[j]? = some d → At K S v d) → Ats K S vs ds
  | [], [], _, _ => .nil
  | [], _ :: _, h, _ => by cases h
  | _ :: _, [], h, _ => by cases h
  | v :: vs, d :: ds, h, k => .cons (k 0 v d rfl rfl) (ats_of (by simpa using h) fun j w e h1 h2 => k (j + 1) w e (by simpa using h1) (by simpa using h2))
theorem same_upd {a : Addr} {o : HO} (e : Same S H) : Same (upd S a o) (upd H a o) := fun b u h => by
  by_cases hb : b = a
  · subst hb; rw [upd_same] at h ⊢; exact h
  · rw [upd_ne hb] at h ⊢; exact e b u h
theorem same_updT : ∀ {as : List Addr} {ps : List (List V)} {S H : Hp}, Same S H → Same (updT S as ps) (updT H as ps)
  | [], [], _, _, e => e
  | [], _ :: _, _, _, e => e
  | _ :: _, [], _, _, e => e
  | a :: as, p :: ps, S, H, e => by
    rw [updT, updT]
    exact same_updT (same_upd e)
theorem ext_updT {as : List Addr} {ps : List (List V)} (e : Same S H) (fr : ∀ c ∈ as, H c = none) : Ext S H (updT S as ps) (updT H as ps) where
  s := fun c u h => by rw [updT_ne fun m => by rw [Same.none e (fr c m)] at h; cases h]; exact h
  h := fun c u h => by rw [updT_ne fun m => by rw [fr c m] at h; cases h]; exact h
  le := same_updT e
  dom := fun c u h => updT_ne fun m => by rw [fr c m] at h; cases h
def bLz (ba bb : BT) : BT := fun env Q => ba env fun x => bb env fun y => ∃ ds es, x.d = .lst ds ∧ y.d = .lst es ∧ Q (.ow (List.zipWith (fun d e => D.tup [d, e]) ds es))
theorem b_lz (hc : X.calm = true) (hm : X.mg "list" = none) (hg : Gl X "list") (hm2 : X.mg "zip" = none) (hg2 : Gl X "zip") (ha : PB X a ba) (hb : PB X b bb) (hs : starEach [a, b] X.env = (false, eval a X.env) :: starEach [b] X.env := by rfl) (hs2 : starEach [b] X.env = (false, eval b X.env) :: starEach [] X.env := by rfl) (hpl : (backTo q (starEach [b] X.env)).any (·.1) = false := by rfl)
    (na : starEach [.Call (.Name "zip" p2) [a, b] [] q] X.env = (false, eval (.Call (.Name "zip" p2) [a, b] [] q) X.env) :: starEach [] X.env := by rfl) : PB X (.Call (.Name "list" p) [.Call (.Name "zip" p2) [a, b] [] q] [] pos) (bLz ba bb) :=
  pe_weak (pe_lz hc hg hm hg2 hm2 (pa_cons ha (pa_cons hb pa_nil hs2) hs) hs hpl na) fun σ H Q ⟨S, env, Qd, hS, hE, hh, hQ⟩ => by
  refine ⟨S, env, _, hS, hE, hh, fun v S1 H1 t O q1 => ?_⟩
  obtain ⟨S2, e2, _, a2⟩ := O.share
  refine ⟨S2, env, _, e2.le, hE.mono e2.s, q1, fun w S3 H3 u O3 ⟨ds, es, h1, h2, q3⟩ => ?_⟩
  obtain ⟨S4, e4, _, a4⟩ := O3.share
  have a5 := a2.mono e4.s
  rw [h1] at a5
  rw [h2] at a4
  cases a5 with
  | @lst c xs _ hx ax =>
    cases a4 with
    | @lst d ys _ hy ay =>
      refine ⟨c, d, xs, ys, rfl, .inl (.inl (e4.le _ _ hx)), .inl (.inl (e4.le _ _ hy)), fun as l hal nd nl fra frl => ?_⟩
      have ex := ext_updT (ps := List.zipWith (fun x y => [x, y]) xs ys) e4.le fra
      refine hQ _ _ _ _ ((((Out.ow ex.le (by rw [updT_ne nl]; exact frl) (ats_of ?_ fun j v d hv hd => ?_)).from ex).from e4).from e2) q3
      · rw [List.length_map, List.length_zipWith, hal, ax.length, ay.length]
      · rw [List.getElem?_map] at hv
        rw [List.getElem?_zipWith] at hd
        cases w1 : as[j]? with
        | none => rw [w1] at hv; cases hv
        | some aj =>
          rw [w1] at hv
          cases hv
          cases w2 : ds[j]? with
          | none => rw [w2] at hd; cases hd
          | some dj =>
            cases w3 : es[j]? with
            | none => rw [w2, w3] at hd; cases hd
            | some ej =>
              rw [w2, w3] at hd
              have hd2 : D.tup [dj, ej] = d := Option.some.inj hd
              subst hd2
              obtain ⟨vx, k1, k2⟩ := ax.get w2
              obtain ⟨vy, k3, k4⟩ := ay.get w3
              have hz : (List.zipWith (fun x y => [x, y]) xs ys)[j]? = some [vx, vy] := by rw [List.getElem?_zipWith, k1, k3]
              exact .tup (.inl (.inl (updT_at nd w1 hz))) (.cons (k2.mono ex.s) (.cons (k4.mono ex.s) .nil))
end
end W

/-! FQ: comprehensions whose items are ours. -/
namespace W
open PySem L2
section
variable {X : Cx} {K : PySem.W.Frag} {pos : Pos}
def bLcT (bi : BI) (tg : Tg) (bt : BTT) (be : BT) (vs : List Nat) : BT := fun env Q => bi env fun items => items.length ≤ 50000 ∧ ∃ (α : Type) (xs : List α) (f : α → D) (r : α → Option T), items = xs.map f ∧
  (∀ x ∈ xs, ∃ env1, tg.put (.sh (f x)) (wipeE env vs) = some env1 ∧ bt env1 fun c => (c = true → be env1 fun t => r x = some t) ∧ (c = false → r x = none)) ∧ Q (.ows (xs.filterMap r))
theorem lcT_ref {bi : BI} {tg : Tg} {bt : BTT} {be : BT} {vs : List Nat} (hj : ∀ j ∈ tg.js, j ∈ vs) {σ : L2.St} {H : Hp} {Q : VK} (h : eOf K (bLcT bi tg bt be vs) σ H Q) : tLc (iOf K bi) (tg.g K) (tOf K bt) (eOf K be) vs σ H Q := by
  obtain ⟨S, env, Qd, hS, hE, hb, hQ⟩ := h
  refine ⟨S, env, _, hS, hE, hb, fun J S1 H1 items e1 io ⟨hn, α, xs, f, r, hx, ht, hq⟩ D hD => ?_⟩
  subst hx
  have hlen : (xs.map f).length = xs.length := List.length_map ..
  rw [hlen] at hn
  refine ⟨fun i m Hc => m = xs.length - i ∧ i ≤ xs.length ∧ ∃ Sc acc L, Ext S1 H1 Sc Hc ∧ Sc D = none ∧ Hc D = some (.lst acc) ∧ Ress K Sc Hc acc ((xs.take i).filterMap r) L ∧ Frs H1 Sc L ∧ D ∉ L,
    ⟨xs.length, by simp, Nat.zero_le _, S1, [], [], ⟨.refl _, same_new hD, e1.le.trans (same_new hD), fun _ _ _ => rfl⟩, Same.none e1.le hD, upd_same, .nil, Frs.nil, by simp⟩, ?_⟩
  rintro i m Hc ⟨rfl, hi, Sc, acc, L, ec, hSD, hHD, ha, hfr, hDL⟩
  by_cases hlt : i < xs.length
  · refine .inr ⟨io.1 i Hc (ec.s.trans ec.le) (by omega), fun H' => i + 1 ≤ xs.length ∧ ∃ Sc acc L, Ext S1 H1 Sc H' ∧ Sc D = none ∧ H' D = some (.lst acc) ∧ Ress K Sc H' acc ((xs.take (i + 1)).filterMap r) L ∧ Frs H1 Sc L ∧ D ∉ L,
      fun H' h => ⟨xs.length - (i + 1), by omega, rfl, h.1, h.2⟩, fun x H' y => ?_⟩
    obtain ⟨d, S2, hd, e2, a2⟩ := io.2.2 i Sc Hc x H' (by omega) ec.s ec.le y
    have hxi : xs[i]? = some xs[i] := by simp [hlt]
    rw [List.getElem?_map, hxi] at hd
    cases hd
    obtain ⟨env1, hp, hb1⟩ := ht xs[i] (List.getElem_mem hlt)
    have etot := e1.trans (ec.trans e2)
    refine tg_ok (vs0 := vs) e2.le ((hE.mono etot.s).wiped vs) a2 hp hj fun σ' hE' hw => ⟨by rw [hw, wipe_wipe], ?_⟩
    refine ⟨S2, env1, _, e2.le, hE', hb1, fun c S3 H3 e3 ⟨q1, q2⟩ => ?_⟩
    have tk : (xs.take (i + 1)).filterMap r = (xs.take i).filterMap r ++ (match r xs[i] with | some z => [z] | none => []) := by
      rw [List.take_add_one, hxi, List.filterMap_append]
      show _ ++ List.filterMap r [xs[i]] = _
      cases hh : r xs[i] <;> simp [hh]
    cases c with
    | true =>
      refine iteT ?_
      refine ⟨S3, env1, _, e3.le, hE'.mono e3.s, q1 rfl, fun u S4 H4 t4 O4 hr => ?_⟩
      obtain ⟨e4, L4, r4, f4⟩ := O4
      have e23 := e2.trans e3
      have ett := e23.trans e4
      have hD4 : S4 D = none := (ett.dom D (.lst _) hHD).trans hSD
      have h3D := e23.h D _ hHD
      have hDL4 : D ∉ L4 := fun m => by rw [(f4.2 D m).1] at h3D; cases h3D
      have kL : ∀ a ∈ L, ∃ o : OM, Hc a = some o.ho := fun a m => ha.lst a m
      refine ⟨acc, ett.h D _ hHD, Nat.lt_of_le_of_lt (m := 50000) ?_ (by decide), hlt, S4, acc ++ [u], L ++ L4, ⟨ec.s.trans ett.s, fun a o h => ?_, fun a o h => ?_, fun a o h => (ett.dom a o (ec.h a _ h)).trans (ec.dom a o h)⟩, hD4, upd_same, ?_, ⟨List.nodup_append.mpr ⟨hfr.1, f4.1, fun a m1 b m2 z => ?_⟩, fun a m => ?_⟩, fun m => (List.mem_append.mp m).elim hDL hDL4⟩
      · rw [ha.length]
        have h1 := List.length_filterMap_le r (xs.take i)
        have h2 := List.length_take_le i xs
        omega
      · rw [upd_ne (ne_of_none h hD)]
        exact ett.h a o (ec.h a o h)
      · rw [upd_ne (ne_of_none h hD4)]
        exact ett.le a o h
      · rw [tk, hr]
        refine (ha.mono ett.s fun a m => ?_).append ?_
        · rw [upd_ne fun z : a = D => hDL (by subst z; exact m)]
          obtain ⟨o, q⟩ := kL a m
          rw [q]
          exact ett.h a _ q
        · have := Ress.cons (r4.mono (.refl S4) (H' := upd H4 D (.lst (acc ++ [u]))) fun a m => upd_ne fun z : a = D => hDL4 (by subst z; exact m)) (Ress.nil (K := K))
          rwa [List.append_nil] at this
      · subst z
        obtain ⟨o, q⟩ := kL a m1
        have := e23.h a _ q
        rw [(f4.2 a m2).1] at this
        cases this
      · rcases List.mem_append.mp m with m | m
        · obtain ⟨o, q⟩ := kL a m
          exact ⟨(hfr.2 a m).1, (ett.dom a o q).trans (hfr.2 a m).2⟩
        · exact ⟨Same.none (ec.h.trans e23.h) (f4.2 a m).1, (f4.2 a m).2⟩
    | false =>
      refine iteF ?_
      have hr := q2 rfl
      have ett := e2.trans e3
      refine ⟨hlt, S3, acc, L, ec.trans ett, (ett.dom D (.lst _) hHD).trans hSD, ett.h D _ hHD, ?_, ⟨hfr.1, fun a m => ?_⟩, hDL⟩
      · rw [tk, hr, List.append_nil]
        refine ha.mono ett.s fun a m => ?_
        obtain ⟨o, q⟩ := ha.lst a m
        rw [q]
        exact ett.h a _ q
      · obtain ⟨o, q⟩ := ha.lst a m
        exact ⟨(hfr.2 a m).1, (ett.dom a _ q).trans (hfr.2 a m).2⟩
  · have e : i = xs.length := by omega
    subst e
    rw [List.take_length] at ha
    refine .inl ⟨by have := io.2.1 Hc (ec.s.trans ec.le); rwa [hlen] at this, hQ _ Sc Hc _ ⟨e1.trans ec, D :: L, .ows hHD ha, List.nodup_cons.mpr ⟨hDL, hfr.1⟩, fun a m => ?_⟩ hq⟩
    rcases List.mem_cons.mp m with rfl | m
    · exact ⟨Same.none e1.h hD, hSD⟩
    · exact ⟨Same.none e1.h (hfr.2 a m).1, (hfr.2 a m).2⟩
theorem b_lcT {bi : BI} {tge elt iter : Expr} {ifs : List Expr} {scope : Scope} {own : List (Str × Nat)} {tg : Tg} {bt : BTT} {be : BT} (hc : X.calm = true) (hN : X.N.Nodup) (hi : PIb X tge iter bi) (ok : BlkOk X.N X.env.scope scope own)
    (hg : ∀ (s : Shared) (H : Hp) (C : Addr) (cl : List (Str × Addr)) (fp : List Addr), PG (X.blk s H scope (compEnvC scope cl C X.env) fp) tge (tg.g X.K)) (ht : ∀ (s : Shared) (H : Hp) (C : Addr) (cl : List (Str × Addr)) (fp : List Addr), PTs (X.blk s H scope (compEnvC scope cl C X.env) fp) ifs (tOf X.K bt))
    (he : ∀ (s : Shared) (H : Hp) (C : Addr) (cl : List (Str × Addr)) (fp : List Addr), PE (X.blk s H scope (compEnvC scope cl C X.env) fp) elt (eOf X.K be)) (hs : ∀ x, foldedSetIterable iter X.env x = pure x := by intro _; rfl) (hj : ∀ j ∈ tg.js, j ∈ own.map (·.2) := by decide) :
    PB X (.ListComp elt [⟨tge, iter, ifs, 0⟩] scope pos) (bLcT bi tg bt be (own.map (·.2))) := pe_weak (pe_lc hc hN hi ok hg ht he hs) fun σ H Q h => lcT_ref hj h
theorem s_setLcT {i : Nat} {y : Str} {py spos : Pos} {bi : BI} {tge elt iter : Expr} {ifs : List Expr} {scope : Scope} {own : List (Str × Nat)} {tg : Tg} {bt : BTT} {be : BT} (all : Bool) (hc : X.calm = true) (hN : X.N.Nodup) (hy : X.N[i]? = some y) (hyl : X.env.scope.names.lookup y = some .local)
    (hsw : swapsWith (.ListComp elt [⟨tge, iter, ifs, 0⟩] scope pos) (some (.Name y py)) spos.line X.env = pure true) (hi : PIb X tge iter bi) (ok : BlkOk X.N X.env.scope scope own)
    (hg : ∀ (s : Shared) (H : Hp) (C : Addr) (cl : List (Str × Addr)) (fp : List Addr), PG (X.blk s H scope (compEnvC scope cl C X.env) fp) tge (tg.g X.K)) (ht : ∀ (s : Shared) (H : Hp) (C : Addr) (cl : List (Str × Addr)) (fp : List Addr), PTs (X.blk s H scope (compEnvC scope cl C X.env) fp) ifs (tOf X.K bt))
    (he : ∀ (s : Shared) (H : Hp) (C : Addr) (cl : List (Str × Addr)) (fp : List Addr), PE (X.blk s H scope (compEnvC scope cl C X.env) fp) elt (eOf X.K be)) (hs : ∀ x, foldedSetIterable iter X.env x = pure x := by intro _; rfl) (hj : ∀ j ∈ tg.js, j ∈ own.map (·.2) := by decide) :
    PSd X (.Assign [.Name y py] (.ListComp elt [⟨tge, iter, ifs, 0⟩] scope pos) spos) (sAsg (.n i) (if all then mA (bLcT bi tg bt be (own.map (·.2))) else mN (bLcT bi tg bt be (own.map (·.2))))) := ps_weak (ps_setLc hc hN hy hyl hsw hi ok hg ht he hs) fun D σ H h => by
  have h2 := asg_ref h
  cases all with
  | true => exact lcT_ref hj (mA_ref h2)
  | false => exact lcT_ref hj (mN_ref h2)
/-- a promise that asks what never is -/
theorem cal_none {P : Program} {w : PySem.World} {mg : Str → Option Value} {base : Heap} {x : Str} {params : Arguments} {body : List Stmt} {scope : Scope} {f : Addr} {fd : FuncData} {ps : List Str} {k : Nat} {sp : SpD}
    (F : FunD K x x params body scope [] [] f fd) (hm : mg x = some (.ref f)) (b : Binds K fd ps []) (h : ∀ ds Q, sp ds Q → False) : CalD P w K mg base k x sp := by
  refine ⟨f, fd, ps, ⟨fun vs H Q E z => ?_, ?_⟩, hm, F.kp, b⟩
  · obtain ⟨_, _, _, _, _, z, _⟩ := z
    exact (h _ _ z).elim
  · intro _ _ _ _ _ _ _ _ _ _ _ _ _ z
    obtain ⟨_, _, _, _, _, z, _⟩ := z
    exact (h _ _ z).elim
end
end W

/-! FR: a, b, c = x, y, z. -/
namespace W
open PySem L2
section
variable {X : Cx} {a b c : Expr} {b1 b2 b3 : BM} {pos : Pos}
def sPar3 (i j l : Nat) (b1 b2 b3 : BM) : DS := fun De env => b1 env fun t1 env1 => b2 env1 fun t2 env2 => b3 env2 fun t3 env3 => De.nx (((env3.set i (some (.sh t1.d))).set j (some (.sh t2.d))).set l (some (.sh t3.d)))
theorem s_par3 {i j l : Nat} {x y z : Str} {px py pz pt : Pos} {kt k2 pt2} (hc : X.calm = true) (hN : X.N.Nodup) (hi : X.N[i]? = some x) (hj : X.N[j]? = some y) (hl : X.N[l]? = some z) (hx : X.env.scope.names.lookup x = some .local) (hy : X.env.scope.names.lookup y = some .local) (hz : X.env.scope.names.lookup z = some .local)
    (h1 : PM X a b1) (h2 : PM X b b2) (h3 : PM X c b3) (hw : swappedStores [.Tuple [.Name x px, .Name y py, .Name z pz] kt pt] (.Tuple [a, b, c] k2 pt2) X.env = pure (some [x, y, z])) (hij : i ≠ j := by decide) (hil : i ≠ l := by decide) (hjl : j ≠ l := by decide)
    (hs : swapsWithSole [.Tuple [.Name x px, .Name y py, .Name z pz] kt pt] (.Tuple [a, b, c] k2 pt2) pos.line X.env = pure false := by rfl)
    (hs1 : starEach [a, b, c] X.env = (false, eval a X.env) :: starEach [b, c] X.env := by rfl) (hs2 : starEach [b, c] X.env = (false, eval b X.env) :: starEach [c] X.env := by rfl) (hs3 : starEach [c] X.env = (false, eval c X.env) :: starEach [] X.env := by rfl) :
    PSd X (.Assign [.Tuple [.Name x px, .Name y py, .Name z pz] kt pt] (.Tuple [a, b, c] k2 pt2) pos) (sPar3 i j l b1 b2 b3) :=
  ps_weak (ps_par3 hc hN hi hj hl hij hil hjl hx hy hz (pa_cons h1 (pa_cons h2 (pa_cons h3 pa_nil hs3) hs2) hs1) hw hs) fun D σ H ⟨S0, H0, S, env, Lf, De, o, hd, n, b, c, r⟩ => by
  refine ⟨S0, H0, S, env, Lf, _, o, hd, fun v1 S1 H1 t1 L1 env1 Lf1 e1 o1 r1 p1 k1 q1 => ?_⟩
  obtain ⟨o1', a1, e1'⟩ := o1.shareP r1 p1
  refine ⟨S0, H0, _, env1, Lf1, _, o1', q1, fun v2 S2 H2 t2 L2 env2 Lf2 e2 o2 r2 p2 k2 q2 => ?_⟩
  obtain ⟨o2', a2, e2'⟩ := o2.shareP r2 p2
  refine ⟨S0, H0, _, env2, Lf2, _, o2', q2, fun v3 S3 H3 t3 L3 env3 Lf3 e3 o3 r3 p3 k3 q3 => ?_⟩
  obtain ⟨o3', a3, e3'⟩ := o3.shareP r3 p3
  obtain ⟨Lf4, o4, _⟩ := o3'.putx (j := i) (.sh (a1.mono ((e2.trans e2').trans (e3.trans e3')))) pend_nil
  obtain ⟨Lf5, o5, _⟩ := o4.putx (j := j) (.sh (a2.mono (e3.trans e3'))) pend_nil
  obtain ⟨Lf6, o6, _⟩ := o5.putx (j := l) (.sh a3) pend_nil
  exact ⟨v1, v2, v3, rfl, n _ _ _ _ Lf6 ((e1.trans e1').trans ((e2.trans e2').trans (e3.trans e3'))) o6 q3⟩
end
end W

/-! FS: sum(lists, []). -/
namespace W
open PySem L2 PyProof.Rows
section
variable {prog : Program} {w : World} {A : Around} {E : Value → Shared → Prop} {s : Shared} {R : Result → Shared → Prop}
/-- lists that lie in h below lo -/
def LsIn (lo : Addr) (h : Heap) (Ls : List (Addr × List Value × Nat)) : Prop := ∀ p ∈ Ls, p.1 < lo ∧ h.get? p.1 = some { cls := .type "list", data := .seq p.2.1.toArray p.2.2 }
def allOf (Ls : List (Addr × List Value × Nat)) : List Value := (Ls.map fun p => p.2.1).flatten
theorem sum_loop (hh : A.handled = none) {I S l lo b0 : Addr} {h0 : Heap} (Ls : List (Addr × List Value × Nat)) (hL : LsIn lo h0 Ls) (hl : l < lo) (hli : h0.IsList l (Ls.map fun p => Value.ref p.1).toArray) (hIl : lo ≤ I) (hSl : lo ≤ S) (hIS : I ≠ S) (hz : (allOf Ls).length ≤ sizeLine)
    (hR : ∀ h T n, (∀ b o, b < lo → h0.get? b = some o → h.get? b = some o) → h.get? T = some { cls := .type "list", data := .seq (allOf Ls).toArray n } → (T = b0 ∨ lo ≤ T) → R (.ok (.ret (.ref T))) { s with heap := h }) :
    ∀ (qs ps : List (Addr × List Value × Nat)) (h : Heap) (T n c : Nat), Ls = ps ++ qs → (∀ b o, b < lo → h0.get? b = some o → h.get? b = some o) → h.IsListIter I l ps.length → h.get? S = some { cls := .type "list", data := .seq #[.ref T] c } → h.get? T = some { cls := .type "list", data := .seq (allOf ps).toArray n } → T ≠ S → T ≠ I → (T = b0 ∨ lo ≤ T) →
      codeAny (model prog w) A (.builtin "sum.loop" ⟨[.ref I, .ref S, rawInt 2, rawInt 0], []⟩) R { s with heap := h } := by
  intro qs
  induction qs with
  | nil =>
    intro ps h T n c e keep hit hS hT hTS hTI hTb
    rw [List.append_nil] at e
    subst e
    refine codeAny_builtin (R := R) PySem.F.entry_sum_loop (?_ : wpAny _ _ _ _ _ _)
    rw [Around.under_plainId (id := "sum.loop") PySem.F.plain_sum_loop _]
    show wpAny _ A.in1 (seqItems? (.ref S) >>= fun _ => _) _ _ _
    refine wpAny_bind (wpAny_seqItems hS rfl ?_)
    show wpAny _ A.in1 (tryCatch (pyNext (.ref I)) _ >>= fun _ => _) _ _ _
    refine wpAny_bind (wpAny_tryCatch (wpAny_pyNext_list_end (s := { s with heap := h }) (A := A.in1) hh hit (hli.at fun o e => keep _ o hl e) (by simp) fun h' hk => ?_))
    refine wpAny_pure (hR h' T n (fun b o hb e => hk b o (Nat.ne_of_lt (Nat.lt_of_lt_of_le hb hIl)) (keep b o hb e)) (hk T _ hTI hT) hTb)
  | cons p qs ih =>
    intro ps h T n c e keep hit hS hT hTS hTI hTb
    refine codeAny_builtin (R := R) PySem.F.entry_sum_loop (?_ : wpAny _ _ _ _ _ _)
    rw [Around.under_plainId (id := "sum.loop") PySem.F.plain_sum_loop _]
    show wpAny _ A.in1 (seqItems? (.ref S) >>= fun _ => _) _ _ _
    refine wpAny_bind (wpAny_seqItems hS rfl ?_)
    show wpAny _ A.in1 (tryCatch (pyNext (.ref I)) _ >>= fun _ => _) _ _ _
    refine wpAny_bind (wpAny_tryCatch (wpAny_pyNext_list_item (s := { s with heap := h }) (A := A.in1) hit (hli.at fun o e => keep _ o hl e) (x := .ref p.1) (by rw [e]; simp) fun h' hit' hk => ?_))
    obtain ⟨hp1, hp2⟩ := hL p (by rw [e]; simp)
    have hpI : p.1 ≠ I := Nat.ne_of_lt (Nat.lt_of_lt_of_le hp1 hIl)
    have hS' := hk.extBut S _ hIS.symm hS
    have hT' := hk.extBut T _ hTI hT
    have hp' := hk.extBut p.1 _ hpI (keep _ _ hp1 hp2)
    show wpAny _ A.in1 ((holding [Value.ref p.1] (binaryOp .Add (.ref T) (.ref p.1))).attempt >>= fun _ => _) _ _ _
    refine wpAny_bind (wpAny_attempt (wpAny_holding (PySem.P.add_list hT' hp' ?_ ?_)))
    · have eacc : (allOf ps).toArray ++ p.2.1.toArray = (allOf (ps ++ [p])).toArray := by unfold allOf; simp
      rw [eacc]
      have keepH : ∀ b o, b ≠ I → h.get? b = some o → (h'.push { cls := .type "list", data := .seq (allOf (ps ++ [p])).toArray }).get? b = some o := fun b o hb q => Heap.get?_push_of_some _ (hk.extBut b o hb q)
      have hT2 : (h'.push { cls := .type "list", data := .seq (allOf (ps ++ [p])).toArray }).get? h'.objs.size = some { cls := .type "list", data := .seq (allOf (ps ++ [p])).toArray } := Heap.get?_push_size _ rfl
      have hS2 := keepH S _ hIS.symm hS
      have hit2 : (h'.push { cls := .type "list", data := .seq (allOf (ps ++ [p])).toArray }).IsListIter I l (ps.length + 1) := by obtain ⟨o, q, r⟩ := hit'; exact ⟨o, Heap.get?_push_of_some _ q, r⟩
      have nTS : h'.objs.size ≠ S := Nat.ne_of_gt (Heap.lt_size hS')
      have nTI : h'.objs.size ≠ I := by obtain ⟨o, q, _⟩ := hit'; exact Nat.ne_of_gt (Heap.lt_size q)
      generalize h'.push { cls := .type "list", data := .seq (allOf (ps ++ [p])).toArray } = g at keepH hT2 hS2 hit2 ⊢
      show wpAny _ A.in1 (updateSeq S (fun _ => #[Value.ref h'.objs.size]) >>= fun _ => _) _ _ _
      refine wpAny_bind (wpAny_updateSeq hS2 rfl ?_)
      have hS3 := Heap.get?_update_self (Obj.mapSeq fun _ => #[Value.ref h'.objs.size]) hS2 rfl
      have k3 : ∀ b o, b ≠ S → g.get? b = some o → (g.update S (Obj.mapSeq fun _ => #[Value.ref h'.objs.size])).get? b = some o := fun b o hb q => (Heap.get?_update_other _ _ (Ne.symm hb)).trans q
      generalize g.update S (Obj.mapSeq fun _ => #[Value.ref h'.objs.size]) = g2 at hS3 k3 ⊢
      refine wpAny_bind (wpAny_letGo ?_)
      refine wpAny_bind (wpAny_updateSeq hS3 rfl (wpAny_pure ⟨plainId_quiet PySem.F.plain_sum_loop _, ih (ps ++ [p]) _ h'.objs.size 0 _ (by rw [e, List.append_assoc]; rfl) (fun b o hb q => ?_) ?_ (Heap.get?_update_self _ hS3 rfl) ?_ nTS nTI (.inr (Nat.le_trans hSl (Nat.le_of_lt (Heap.lt_size hS'))))⟩))
      · have nbS : b ≠ S := Nat.ne_of_lt (Nat.lt_of_lt_of_le hb hSl)
        exact (Heap.get?_update_other _ _ (Ne.symm nbS)).trans (k3 b o nbS (keepH b o (Nat.ne_of_lt (Nat.lt_of_lt_of_le hb hIl)) (keep b o hb q)))
      · rw [List.length_append]
        obtain ⟨o, q, r⟩ := hit2
        exact ⟨o, (Heap.get?_update_other _ _ hIS.symm).trans (k3 I o hIS q), r⟩
      · exact (Heap.get?_update_other _ _ (Ne.symm nTS)).trans (k3 _ _ nTS hT2)
    · rw [List.size_toArray, List.size_toArray]
      have : (allOf Ls).length = (allOf ps).length + p.2.1.length + (allOf qs).length := by
        rw [e]
        unfold allOf
        rw [List.map_append, List.map_cons, List.flatten_append, List.flatten_cons, List.length_append, List.length_append]
        omega
      omega
theorem args_sum2 (a b : Value) : argsOk "sum" ⟨[a, b], []⟩ := by unfold argsOk; kernel_rfl
theorem call_sum2 {l b : Addr} {n0 : Nat} {Q : Value → Shared → Prop} (hh : A.handled = none) (Ls : List (Addr × List Value × Nat)) (hL : LsIn s.heap.objs.size s.heap Ls) (hli : s.heap.IsList l (Ls.map fun p => Value.ref p.1).toArray) (hb : s.heap.get? b = some { cls := .type "list", data := .seq #[] n0 }) (hz : (allOf Ls).length ≤ sizeLine)
    (hQ : ∀ h T n, (∀ b o, s.heap.get? b = some o → h.get? b = some o) → h.get? T = some { cls := .type "list", data := .seq (allOf Ls).toArray n } → (T = b ∨ s.heap.objs.size ≤ T) → Q (.ref T) { s with heap := h }) : wpAny (model prog w) A (call (.builtin "sum") [.ref l, .ref b]) Q E s := by
  refine call_function_tree PySem.F.kind_sum PySem.F.plain_sum PySem.F.entry_sum (args_sum2 _ _) ?_
  unfold Builtin.«sum»
  simp only [List.length_cons, List.length_nil]
  rw [if_neg (by decide)]
  refine wpAny_bind (wpAny_of_eq (show Builtin.Builtins.bindParams "sum" ["start"] 0 { pos := [Value.ref b] } = pure [some (.ref b)] from rfl) ?_)
  refine wpAny_bind (wpAny_pyIter_list hli ?_)
  have tb : ∀ h : Heap, (∀ c o, s.heap.get? c = some o → h.get? c = some o) → ({ s with heap := h } : Shared).TypeIs (.ref b) "list" := fun h k => ⟨_, k _ _ hb, rfl⟩
  have k1 : ∀ c o, s.heap.get? c = some o → (s.heap.push { cls := .type "list_iterator", data := .fields #[.ref l, .int 0 0] }).get? c = some o := fun c o e => Heap.get?_push_of_some _ e
  have bad : ∀ (T : String) (k : isSubtype (.type "list") (.type T) = pure false) (h : Heap) (kk : ∀ c o, s.heap.get? c = some o → h.get? c = some o) (Q' : Bool → Shared → Prop), Q' false { s with heap := h } → wpAny (model prog w) A.in1 (isInstance (.ref b) (.type T)) Q' E { s with heap := h } := fun T k h kk Q' q => wpAny_isInstance (T := "list") (b := false) (tb h kk) k q
  refine wpAny_bind (wpAny_pure ?_)
  simp only [List.forIn_cons, List.forIn_nil]
  refine wpAny_bind (wpAny_bind (wpAny_bind (wpAny_isInstance (T := "list") (b := false) (tb _ k1) PySem.F.sub_list_str ?_)))
  simp only [Bool.false_eq_true, if_false]
  refine wpAny_pure (wpAny_bind (wpAny_bind (wpAny_isInstance (T := "list") (b := false) (tb _ k1) PySem.F.sub_list_bytes ?_)))
  simp only [Bool.false_eq_true, if_false]
  refine wpAny_pure (wpAny_bind (wpAny_bind (wpAny_isInstance (T := "list") (b := false) (tb _ k1) PySem.F.sub_list_bytearray ?_)))
  simp only [Bool.false_eq_true, if_false]
  refine wpAny_pure (wpAny_pure ?_)
  refine wpAny_bind (wpAny_newObj_type ?_)
  have z1 : (s.heap.push { cls := .type "list_iterator", data := .fields #[.ref l, .int 0 0] }).objs.size = s.heap.objs.size + 1 := Heap.size_push ..
  have hI : (s.heap.push { cls := .type "list_iterator", data := .fields #[.ref l, .int 0 0] }).IsListIter s.heap.objs.size l 0 := ⟨_, Heap.get?_push_size _ rfl, rfl, rfl⟩
  have hbl : b < s.heap.objs.size := Heap.lt_size hb
  have hll : l < s.heap.objs.size := by obtain ⟨_, e, _⟩ := hli; exact Heap.lt_size e
  generalize s.heap.push { cls := .type "list_iterator", data := .fields #[.ref l, .int 0 0] } = g at k1 z1 hI ⊢
  refine wpAny_pure ⟨plainId_quiet PySem.F.plain_sum_loop _, sum_loop (s := s) (lo := s.heap.objs.size) (b0 := b) (h0 := s.heap) hh Ls hL hll hli (Nat.le_refl _) (by rw [z1]; exact Nat.le_succ _) (by rw [z1]; exact Nat.ne_of_lt (Nat.lt_succ_self _)) hz (fun h T n k e q => hQ h T n (fun c o x => k c o (Heap.lt_size x) x) e q) Ls [] _ b n0 _ rfl (fun c o _ x => Heap.get?_push_of_some _ (k1 c o x)) ?_ (Heap.get?_push_size _ rfl) (Heap.get?_push_of_some _ (k1 _ _ hb)) ?_ (Nat.ne_of_lt hbl) (.inl rfl)⟩
  · obtain ⟨o, e, r⟩ := hI
    exact ⟨o, Heap.get?_push_of_some _ e, r⟩
  · rw [z1]
    exact Nat.ne_of_lt (Nat.lt_succ_of_lt hbl)
end
section
variable {X : Cx} {K : PySem.W.Frag}
def rSum2 : List V → Hp → VK → Prop := fun vs H Q => ∃ (l b : Addr) (Ls : List (Addr × List V)), vs = [.ref l, .ref b] ∧ H l = some (.lst (Ls.map fun p => V.ref p.1)) ∧ (∀ p ∈ Ls, H p.1 = some (.lst p.2)) ∧ H b = some (.lst []) ∧ (Ls.map (·.2)).flatten.length ≤ sizeLine ∧ ((Ls.map (·.2)).flatten = [] → Q (.ref b) H) ∧ ∀ T, H T = none → Q (.ref T) (upd H T (.lst (Ls.map (·.2)).flatten))
theorem ls_build {pins : List (Addr × Obj)} {σ : L2.St} {H : Hp} {s : Shared} (I : L2.Inv X pins σ H s) : ∀ {Ls : List (Addr × List V)}, (∀ p ∈ Ls, H p.1 = some (.lst p.2)) → ∃ Ms : List (Addr × List Value × Nat), Ms.map (·.1) = Ls.map (·.1) ∧ LsIn s.heap.objs.size s.heap Ms ∧ Vals (Ls.map (·.2)).flatten (allOf Ms)
  | [], _ => ⟨[], rfl, fun _ m => (by cases m), .nil⟩
  | p :: Ls, h => by
    obtain ⟨Ms, h1, h2, h3⟩ := ls_build I (Ls := Ls) fun q m => h q (List.mem_cons_of_mem _ m)
    obtain ⟨z, its, n, r, hl, e⟩ := I.lstM (h p (by simp))
    refine ⟨(p.1, its, n) :: Ms, by rw [List.map_cons, List.map_cons, h1], fun q m => ?_, ?_⟩
    · rcases List.mem_cons.mp m with rfl | m
      · exact ⟨Heap.lt_size e, e⟩
      · exact h2 q m
    · show Vals (p.2 ++ _) (its ++ _)
      exact r.append h3
theorem vals_ref_eq : ∀ {as : List Addr} {us : List Value}, Vals (as.map V.ref) us → us = as.map Value.ref
  | [], _, .nil => rfl
  | a :: as, _, .cons r t => by
    cases r
    rw [vals_ref_eq t]
    rfl
theorem cr_sum2 (hc : X.calm = true) : CallR X (.builtin "sum") rSum2 := by
  intro pins s σ H xs us Q I r h
  obtain ⟨l, b, Ls, rfl, hl, hLs, hb, hz, q1, q2⟩ := h
  cases r with
  | cons r rr =>
    cases rr with
    | cons r' rr =>
      cases rr
      cases r
      cases r'
      obtain ⟨z1, its, n, r1, hl1, e1⟩ := I.lstM hl
      obtain ⟨z2, its2, n2, r2, hl2, e2⟩ := I.lstM hb
      cases r2
      obtain ⟨Ms, m1, m2, m3⟩ := ls_build I hLs
      have hits : its = Ms.map fun p => Value.ref p.1 := by
        have : Vals ((Ls.map (·.1)).map V.ref) its := by rw [List.map_map]; exact r1
        rw [vals_ref_eq this, ← m1, List.map_map]
        rfl
      have hlen := m3.length
      refine call_sum2 (I.ok.hd hc) Ms m2 ⟨_, by rw [e1, hits], rfl, n, rfl⟩ e2 (by omega) fun h T n' k e hT => ?_
      rcases hT with rfl | hT
      · have e3 := k _ _ e2
        rw [e] at e3
        have : (allOf Ms).toArray = #[] := by
          have := Option.some.inj e3
          injection this with _ _ d _
          injection d
        have h0 : allOf Ms = [] := by simpa using this
        rw [h0] at m3
        have h00 : (Ls.map (·.2)).flatten = [] := by
          have := m3.length
          exact List.length_eq_zero_iff.mp this
        exact ⟨.ref T, H, I.kept (t' := s.toks) k, rfl, q1 h00⟩
      · exact ⟨.ref T, _, I.laid (t' := s.toks) k hT (show ObjOk X.prog X.w _ _ _ (.lst _) from ⟨hz, allOf Ms, n', m3, e⟩), rfl, q2 T (I.hok.fresh hT)⟩
/-- sum(lists, []) -/
def fSum2 : SpD := fun ds Q => ∃ dss : List (List D), ds = [.lst (dss.map D.lst), .lst []] ∧ dss.flatten.length ≤ 100000 ∧ Q (.sh (.lst dss.flatten))
theorem ats_lists {S : Hp} : ∀ {dss : List (List D)} {vs : List V}, Ats K S vs (dss.map D.lst) → ∃ Ls : List (Addr × List V), vs = Ls.map (fun p => V.ref p.1) ∧ (∀ p ∈ Ls, S p.1 = some (.lst p.2)) ∧ Ats K S (Ls.map (·.2)).flatten dss.flatten
  | [], _, .nil => ⟨[], rfl, fun _ m => (by cases m), .nil⟩
  | ds :: dss, _, .cons h a => by
    obtain ⟨Ls, rfl, h2, h3⟩ := ats_lists a
    cases h with
    | @lst p xs _ hp hx =>
      refine ⟨(p, xs) :: Ls, rfl, fun q m => ?_, ?_⟩
      · rcases List.mem_cons.mp m with rfl | m
        · exact hp
        · exact h2 q m
      · show Ats K S (xs ++ _) (ds ++ _)
        exact hx.append h3
theorem c_sum2 (hc : X.calm = true) : BlD X (.builtin "sum") fSum2 := by
  refine ⟨_, cr_sum2 hc, fun S H vs ds Q Qd hS h hf hQ => ?_⟩
  obtain ⟨dss, rfl, hl, hf⟩ := hf
  obtain ⟨v, u, rfl, a, b⟩ := ats2 h
  cases a with
  | @lst p xs _ hp hx =>
    cases b with
    | @lst q ys _ hq hy =>
      cases hy
      obtain ⟨Ls, rfl, h2, h3⟩ := ats_lists hx
      refine ⟨p, q, Ls, rfl, hS _ _ hp, fun c m => hS _ _ (h2 c m), hS _ _ hq, by rw [h3.length]; exact line_le hl, fun e => ?_, fun T hT => ?_⟩
      · have e2 : dss.flatten = [] := by
          rw [e] at h3
          have := h3.length
          exact List.length_eq_zero_iff.mp this.symm
        rw [e2] at hf
        exact hQ _ S H _ (.sh hS (.lst hq .nil)) hf
      · obtain ⟨S2, x1, x2, x3⟩ := (Out.ow hS hT h3).share
        exact hQ _ S2 _ _ ⟨x1, [], .sh x3, Frs.nil⟩ hf
end
end W

/-! FT: sorted of pairs. -/
namespace W
open PySem L2
section
variable {X : Cx} {K : PySem.W.Frag}
def code2 (c : Nat × Nat) : Nat := c.1 * 16 + c.2
def srtP (cs : List (Nat × Nat)) : List (Nat × Nat) := cs.mergeSort fun a b => decide (code2 a ≤ code2 b)
theorem srtP_perm (cs : List (Nat × Nat)) : (srtP cs).Perm cs := List.mergeSort_perm _ _
theorem srtP_le (cs : List (Nat × Nat)) : (srtP cs).Pairwise fun a b => code2 a ≤ code2 b := by
  have h := List.pairwise_mergeSort (le := fun a b => decide (code2 a ≤ code2 b)) (fun a b c h1 h2 => by rw [decide_eq_true_iff] at *; omega) (fun a b => by rw [Bool.or_eq_true, decide_eq_true_iff, decide_eq_true_iff]; omega) cs
  exact h.imp fun h => by simpa using h
theorem sortedP_one {xs ys : List (Nat × Nat)} (p : xs.Perm ys) (hb : ∀ c ∈ xs, c.1 < 16 ∧ c.2 < 16) (h1 : xs.Pairwise fun a b => code2 a ≤ code2 b) (h2 : ys.Pairwise fun a b => code2 a ≤ code2 b) : xs = ys :=
  p.eq_of_pairwise (le := fun a b => code2 a ≤ code2 b) (fun a b ha hb' q1 q2 => by
    have b1 := hb a ha
    have b2 := hb b (p.mem_iff.mpr hb')
    unfold code2 at q1 q2
    obtain ⟨a1, a2⟩ := a
    obtain ⟨c1, c2⟩ := b
    dsimp only at *
    congr 1 <;> omega) h1 h2
theorem srtP_eq {xs ys : List (Nat × Nat)} (p : xs.Perm ys) (hb : ∀ c ∈ xs, c.1 < 16 ∧ c.2 < 16) : srtP xs = srtP ys :=
  sortedP_one ((srtP_perm xs).trans (p.trans (srtP_perm ys).symm)) (fun c m => hb c ((srtP_perm xs).mem_iff.mp m)) (srtP_le xs) (srtP_le ys)
theorem ats_perm {S : Hp} {xs ys : List V} (p : xs.Perm ys) : ∀ cs : List (Nat × Nat), Ats K S xs (cs.map pr) → ∃ cs' : List (Nat × Nat), cs'.Perm cs ∧ Ats K S ys (cs'.map pr) := by
  induction p with
  | nil => exact fun cs h => ⟨cs, .refl _, h⟩
  | cons x p ih =>
    intro cs h
    cases cs with
    | nil => cases h
    | cons c cs =>
      cases h with
      | cons a r =>
        obtain ⟨cs', q, r'⟩ := ih cs r
        exact ⟨c :: cs', q.cons c, .cons a r'⟩
  | swap x y l =>
    intro cs h
    match cs, h with
    | c :: d :: cs, .cons a (.cons b r) => exact ⟨d :: c :: cs, .swap _ _ _, .cons b (.cons a r)⟩
  | trans p1 p2 i1 i2 =>
    intro cs h
    obtain ⟨c1, q1, r1⟩ := i1 cs h
    obtain ⟨c2, q2, r2⟩ := i2 c1 r1
    exact ⟨c2, q2.trans q1, r2⟩
theorem at_pr {S : Hp} {v : V} {c : Nat × Nat} (h : At K S v (pr c)) : TupI K S v [(c.1 : Int), (c.2 : Int)] := by
  unfold pr at h
  cases h with
  | tup hp a => exact ⟨_, rfl, by rw [(Ats.ints (ns := [(c.1 : Int), (c.2 : Int)]) a)] at hp; exact hp⟩
theorem ats_pair {S : Hp} {R : Nat × Nat → Nat × Nat → Prop} {V2 : V → V → Prop} (k : ∀ x y c d, At K S x (pr c) → At K S y (pr d) → V2 x y → R c d) : ∀ {xs : List V} {cs : List (Nat × Nat)}, Ats K S xs (cs.map pr) → xs.Pairwise V2 → cs.Pairwise R
  | _, [], _, _ => .nil
  | _, c :: cs, .cons a r, .cons h1 h2 => by
    refine .cons (fun d m => ?_) (ats_pair k r h2)
    obtain ⟨i, hi⟩ := List.getElem?_of_mem m
    obtain ⟨y, hy, ay⟩ := r.get (i := i) (d := pr d) (by rw [List.getElem?_map, hi]; rfl)
    exact k _ _ _ _ a ay (h1 y (List.mem_of_getElem? hy))
def fSortP : SpD := fun ds Q => ∃ cs : List (Nat × Nat), ds = [.lst (cs.map pr)] ∧ cs.length < 64 ∧ (∀ c ∈ cs, c.1 < 16 ∧ c.2 < 16) ∧ Q (.ow ((srtP cs).map pr))
theorem c_sortP : BlD X (.builtin "sorted") fSortP := by
  refine ⟨_, cr_sortT (d := 2) (B := 16) (by decide), fun S H vs ds Q Qd hS h hf hQ => ?_⟩
  obtain ⟨cs, rfl, hn, hb, hf⟩ := hf
  obtain ⟨v, rfl, a⟩ := ats1 h
  cases a with
  | @lst p xs _ hp ha =>
    have hl : xs.length = cs.length := by rw [ha.length, List.length_map]
    refine ⟨p, xs, rfl, .inl (.inl (hS _ _ hp)), by rw [hl]; exact hn, fun x m => ?_, fun ys q h1 h2 hq => ?_⟩
    · obtain ⟨i, hi⟩ := List.getElem?_of_mem m
      obtain ⟨d, hd, ad⟩ := ha.getV hi
      rw [List.getElem?_map] at hd
      obtain ⟨c, hc, rfl⟩ := Option.map_eq_some_iff.mp hd
      obtain ⟨b1, b2⟩ := hb c (List.mem_of_getElem? hc)
      obtain ⟨t, e, ht⟩ := at_pr ad
      refine ⟨[(c.1 : Int), (c.2 : Int)], ⟨t, e, same_t hS ht⟩, rfl, fun m hm => ?_⟩
      rcases List.mem_cons.mp hm with rfl | hm
      · omega
      · rw [List.mem_singleton] at hm
        omega
    · obtain ⟨cs', p1, p2⟩ := ats_perm h1.symm cs ha
      have e : cs' = srtP cs := by
        refine sortedP_one (p1.trans (srtP_perm cs).symm) (fun c m => hb c (p1.mem_iff.mp m)) (ats_pair (fun x y c d ax ay k => ?_) p2 h2) (srtP_le cs)
        obtain ⟨t, et, ht⟩ := at_pr ax
        obtain ⟨t', et', ht'⟩ := at_pr ay
        have z := k _ _ ⟨t, et, same_t hS ht⟩ ⟨t', et', same_t hS ht'⟩
        rw [show TS.code 16 [(c.1 : Int), (c.2 : Int)] = (c.1 : Int) * 16 + (c.2 : Int) by simp [TS.code], show TS.code 16 [(d.1 : Int), (d.2 : Int)] = (d.1 : Int) * 16 + (d.2 : Int) by simp [TS.code]] at z
        unfold code2
        omega
      subst e
      exact hQ _ _ _ _ (.ow hS hq p2) hf
end
end W

/-! FU: defs that raise, over data; calls of such; raise; try. -/
namespace W
open PySem L2
/-! ### what an except clause catches -/
def catLook : List (Str × Bool) → Str → Option Bool
  | [], _ => none
  | (n, b) :: r, x => if n = x then some b else catLook r x
/-- what the head tells of an except clause's class x: which classes it catches -/
def HAll (K : PySem.W.Frag) (mg : Str → Option Value) (c : Value) : List (Str × Bool) → Prop
  | [] => True
  | (n, b) :: r => (∃ C, mg n = some (.ref C) ∧ PySem.W.exmOne K (.ref C) c = some b) ∧ HAll K mg c r
structure Hnd (K : PySem.W.Frag) (mg : Str → Option Value) (x : Str) (cat : List (Str × Bool)) : Prop where
  ex : ∃ c, mg x = some c ∧ ∀ n b, (n, b) ∈ cat → ∃ C, mg n = some (.ref C) ∧ PySem.W.exmOne K (.ref C) c = some b
/-! ### promises with exceptions -/
abbrev SpX := List D → (T → Prop) → (Xn → Prop) → Prop
def spOfX (K : PySem.W.Frag) (mg : Str → Option Value) (sp : SpX) : Sp := fun vs H Q E => ∃ (S : Hp) (ds : List D) (Qd : T → Prop) (Ed : Xn → Prop), Same S H ∧ Ats K S vs ds ∧ sp ds Qd Ed ∧ (∀ v S' H' t, Out K S H v t S' H' → Qd t → Q v H') ∧
  ∀ cls d S' H' xn, Ext S H S' H' → XAt mg H' cls d xn → Ed xn → E cls d H'
structure CalX (P : Program) (w : PySem.World) (K : PySem.W.Frag) (mg : Str → Option Value) (base : Heap) (k : Nat) (x : Str) (sp : SpX) : Prop where
  ex : ∃ (f : Addr) (fd : FuncData) (ps : List Str), FnOk P w K mg base (L2.CX P w) k f fd ps (spOfX K mg sp) ∧ mg x = some (.ref f) ∧ PySem.W.keepIn K (.ref f) = true ∧ Binds K fd ps []
section
variable {P : Program} {w : PySem.World} {K : PySem.W.Frag} {mg : Str → Option Value} {base : Heap} {j k : Nat} {x : Str}
theorem CalX.mono {sp : SpX} (c : CalX P w K mg base j x sp) (h : j ≤ k) : CalX P w K mg base k x sp := by
  obtain ⟨f, fd, ps, F, r⟩ := c.ex
  exact ⟨f, fd, ps, F.mono h, r⟩
/-- where nothing is raised it is a plain promise -/
theorem CalX.toD {sp : SpX} {sp' : SpD} (c : CalX P w K mg base k x sp) (h : ∀ ds Q, sp' ds Q → sp ds Q fun _ => False) : CalD P w K mg base k x sp' := by
  obtain ⟨f, fd, ps, F, r⟩ := c.ex
  refine ⟨f, fd, ps, ⟨fun vs H Q E ⟨S, ds, Qd, e, a, hs, hq⟩ => F.len vs H Q (fun _ _ _ => False) ⟨S, ds, Qd, fun _ => False, e, a, h _ _ hs, hq, fun _ _ _ _ _ _ _ z => z.elim⟩,
    fun A outer s H args us vs Q E hr e0 hb hv ⟨S, ds, Qd, e, a, hs, hq⟩ => PySem.codeAny_mono (F.run A outer s H args us vs Q (fun _ _ _ => False) hr e0 hb hv ⟨S, ds, Qd, fun _ => False, e, a, h _ _ hs, hq, fun _ _ _ _ _ _ _ z => z.elim⟩) fun r s' q => ?_⟩, r⟩
  cases r with
  | error e =>
    obtain ⟨_, _, _, _, _, _, _, _, _, _, _, _, z⟩ := q
    exact z.elim
  | ok fl => cases fl <;> exact q
/-- .. and a plain one serves where exceptions are wished for -/
abbrev endsX (Q : T → Prop) (E : Xn → Prop) : DEnds := ⟨fun _ => Q (.sh .non), fun t _ => Q t, fun _ => False, fun _ => False, fun xn _ => E xn⟩
theorem cal_mkX {params : Arguments} {body : List Stmt} {scope : Scope} {f : Addr} {fd : FuncData} {N ps : List Str} {sp : SpX} {dt : DS}
    (F : FunD K x x params body scope [] [] f fd) (hm : mg x = some (.ref f)) (b : Binds K fd ps []) (S : FnScope N ps scope) (len : ∀ ds Q E, sp ds Q E → ds.length = ps.length)
    (hbody : ∀ (cdv : Value) (A : Around) (outer : List PySem.Env) (s : Shared) (H : Hp) (E : XK), Room k (A.deeper (PyProof.Rows.envOfC x scope s.heap.objs.size f cdv)) → PSds (cxOf (L2.CX P w) P w K mg base N x scope f cdv A outer s H E) body dt)
    (hd : ∀ ds Q E, sp ds Q E → dt (endsX Q E) (env0 N.length ds)) : CalX P w K mg base (k + 1) x sp := by
  refine ⟨f, fd, ps, F.ok S (fun vs H Q E h => ?_) (fun cdv A outer s H vs Q E hr h => ?_), hm, F.kp, b⟩
  · obtain ⟨S', ds, Qd, Ed, e, a, h, _⟩ := h
    rw [a.length]
    exact len ds Qd Ed h
  · obtain ⟨S', ds, Qd, Ed, e, a, h, k, kx⟩ := h
    refine ⟨sOf _ dt, hbody cdv A outer s H E hr, ?_⟩
    refine ⟨S', H, S', env0 N.length ds, fun _ => [], endsX Qd Ed, own_start e a, hd ds Qd Ed h, fun S2 H2 σ2 env2 Lf2 _ o q => ?_, fun _ _ _ _ _ _ _ q => q.elim, fun _ _ _ _ _ _ _ q => q.elim, fun v S2 H2 σ2 env2 Lf2 t L o r p q => k v S2 H2 t (o.out r p) q, fun S2 H2 σ2 env2 Lf2 cls dx xn _ o xa q => ?_⟩
    · exact k .non S2 H2 _ ((Out.sh o.ext.le .non).from o.ext) q
    · exact Wx_of (W := fun cls d _ H => E cls d H) (takes_of rfl rfl rfl rfl) (kx cls dx S2 H2 xn o.ext xa q)
end
theorem hall_mem {K : PySem.W.Frag} {mg : Str → Option Value} {c : Value} : ∀ {cat : List (Str × Bool)}, HAll K mg c cat → ∀ n b, (n, b) ∈ cat → ∃ C, mg n = some (.ref C) ∧ PySem.W.exmOne K (.ref C) c = some b
  | (n', b') :: r, h, n, b, m => by
    rcases List.mem_cons.mp m with e | m
    · cases e
      exact h.1
    · exact hall_mem h.2 n b m
theorem hnd_mk {K : PySem.W.Frag} {mg : Str → Option Value} {x : Str} {cat : List (Str × Bool)} {c : Value} (h : mg x = some c) (r : HAll K mg c cat) : Hnd K mg x cat := ⟨c, h, hall_mem r⟩
section
variable {X : Cx} {a e : Expr} {es : List Expr} {bs : BA} {pos p pos2 : Pos} {i k : Nat} {x : Str} {sp : SpX}
/-- f(..) as a statement -/
def sCallX (sp : SpX) (bs : BA) : DS := fun De env => bs (hide env) fun ts => sp (T.ds ts) (fun _ => De.nx env) fun xn => De.xc xn env
theorem s_callX (c : CalX X.prog X.w X.K X.mg X.base k x sp) (hr : Room k X.A) (hg : Gl X x) (ha : PAb X (a :: es) bs)
    (hdb : (x == ("__debug__" : Str)) = false := by decide) (he : starEach (a :: es) X.env = (false, eval a X.env) :: starEach es X.env := by rfl) (hpl : (backTo pos (starEach es X.env)).any (·.1) = false := by rfl)
    (hs : swapsWith (.Call (.Name x p) (a :: es) [] pos) none pos2.line X.env = pure false := by rfl) :
    PSd X (.Expr (.Call (.Name x p) (a :: es) [] pos) pos2) (sCallX sp bs) := by
  obtain ⟨f, fd, ps, F, hm, kp, b⟩ := c.ex
  refine ps_weak (ps_expr (pe_callS (E := WE (Wx X)) F hr hg hm kp b (fun σ => passAt (takes_Wx X) σ) ha hdb he hpl) hs) fun D σ H ⟨S0, H0, S, env, Lf, De, o, hd, n, bb, c, r⟩ => ?_
  refine ⟨S, hide env, _, o.ext.le, o.hid, hd, fun vs S1 H1 ts O q => ?_⟩
  obtain ⟨S2, e2, _, a2⟩ := O.share
  exact ⟨S2, _, _, _, e2.le, a2, q, fun v S' H' t O' q' => n S' H' σ env Lf (e2.s.trans O'.1.s) (o.grow (e2.trans O'.1)) q',
    fun cls d S' H' xn e' xa q' => r.2 S' H' σ env Lf cls d xn (e2.s.trans e'.s) (o.grow (e2.trans e')) xa q'⟩
/-- x = f(..), what comes is shared -/
def sSetX (i : Nat) (sp : SpX) (bs : BA) : DS := fun De env => bs (hide env) fun ts => sp (T.ds ts) (fun t => De.nx (env.set i (some (.sh t.d)))) fun xn => De.xc xn env
theorem s_setX {y : Str} {pos' : Pos} (c : CalX X.prog X.w X.K X.mg X.base k x sp) (hr : Room k X.A) (hg : Gl X x) (ha : PAb X (a :: es) bs) (hN : X.N.Nodup) (hi : X.N[i]? = some y) (hx : Loc X.env.scope y)
    (hdb : (x == ("__debug__" : Str)) = false := by decide) (he : starEach (a :: es) X.env = (false, eval a X.env) :: starEach es X.env := by rfl) (hpl : (backTo pos (starEach es X.env)).any (·.1) = false := by rfl)
    (hs : swapsWith (.Call (.Name x p) (a :: es) [] pos) (some (.Name y pos')) pos2.line X.env = pure false := by rfl) (hf : X.fn y = true ∨ X.env.scope.names.lookup y = some .local := by first | exact .inl rfl | exact .inr rfl | assumption) :
    PSd X (.Assign [.Name y pos'] (.Call (.Name x p) (a :: es) [] pos) pos2) (sSetX i sp bs) := by
  obtain ⟨f, fd, ps, F, hm, kp, b⟩ := c.ex
  refine ps_weak (ps_set hN hi hx (pe_callS (E := WE (Wx X)) F hr hg hm kp b (fun σ => passAt (takes_Wx X) σ) ha hdb he hpl) hs hf) fun D σ H ⟨S0, H0, S, env, Lf, De, o, hd, n, bb, c, r⟩ => ?_
  refine ⟨S, hide env, _, o.ext.le, o.hid, hd, fun vs S1 H1 ts O q => ?_⟩
  obtain ⟨S2, e2, _, a2⟩ := O.share
  refine ⟨S2, _, _, _, e2.le, a2, q, fun v S' H' t O' q' => ?_, fun cls d S' H' xn e' xa q' => r.2 S' H' σ env Lf cls d xn (e2.s.trans e'.s) (o.grow (e2.trans e')) xa q'⟩
  obtain ⟨S3, e3, e4, a3⟩ := O'.share
  exact own_put (tg := .n i) (o.grow (e2.trans e3)) (.sh a3) ⟨List.nodup_nil, fun _ m => by cases m⟩ rfl fun σ2 Lf2 o2 => n S3 H' σ2 _ Lf2 (e2.s.trans e3.s) o2 q'
/-- what the head tells of an exception class that has no __init__ of its own -/
structure ErrC (K : PySem.W.Frag) (mg : Str → Option Value) (n : Str) : Prop where
  ex : ∃ C, mg n = some (.ref C) ∧ PySem.W.excIn K C He.veBase "ValueError.__new__" = true ∧ PySem.W.keepIn K (.ref C) = true ∧ PySem.W.subIn K (.ref C) (.type "BaseException") = some true ∧ PySem.W.typeIn K (.ref C) = some (.type "type")
/-- raise C('..') -/
def sRaise (c : Str) : DS := fun De env => De.xc ⟨c, none⟩ env
theorem s_raise {c m : Str} {j : Nat} {p2 : Pos} (hc : X.calm = true) (T : ErrC X.K X.mg c) (hg : Gl X c) (hdb : (c == ("__debug__" : Str)) = false := by decide) : PSd X (.Raise (some (.Call (.Name c p) [.Constant (.str m) j p2] [] pos)) none pos2) (sRaise c) := by
  obtain ⟨C, gC, q, kC, sC, tC⟩ := T.ex
  refine ps_weak (ps_raise hc (takes_Wx X) (pmk_own PySem.F.excBase_ValueError q gC kC (raises_own sC tC) hg hdb)) fun D σ H ⟨S0, H0, S, env, Lf, De, o, hd, n, bb, c, r⟩ => ?_
  exact r.2 S H σ env Lf _ _ _ (.refl _) o ⟨C, gC, rfl, rfl⟩ hd
/-! ### try -/
/-- which classes an except clause of the class c catches -/
def Cat (X : Cx) (c : Value) (cat : List (Str × Bool)) : Prop := ∀ n b, (n, b) ∈ cat → ∃ C, X.mg n = some (.ref C) ∧ PySem.W.exmOne X.K (.ref C) c = some b
theorem catLook_mem : ∀ {l : List (Str × Bool)} {x : Str} {b : Bool}, catLook l x = some b → (x, b) ∈ l
  | (n, b') :: r, x, b, h => by
    rw [catLook] at h
    split at h
    · rename_i e
      cases h
      rw [e]
      exact List.mem_cons_self ..
    · exact List.mem_cons_of_mem _ (catLook_mem h)
theorem cat_at {X : Cx} {c : Value} {cat : List (Str × Bool)} (h : Cat X c cat) {H : Hp} {cls : Value} {d : Option Addr} {xn : Xn} {b : Bool} (xa : XAt X.mg H cls d xn) (e : catLook cat xn.c = some b) : PySem.W.exmOne X.K cls c = some b := by
  obtain ⟨C, g, rfl, _⟩ := xa
  obtain ⟨C', g', x⟩ := h _ _ (catLook_mem e)
  rw [g] at g'
  cases g'
  exact x
theorem sOfW_imp {K : PySem.W.Frag} {mg : Str → Option Value} {W W' : WX} {d : DS} {D : Ends} {σ : L2.St} {H : Hp} (h : ∀ cls d σ H, W cls d σ H → W' cls d σ H) (s : sOfW K mg W d D σ H) : sOfW K mg W' d D σ H := by
  obtain ⟨S0, H0, S, env, Lf, De, o, hd, n, b, c, r⟩ := s
  exact ⟨S0, H0, S, env, Lf, De, o, hd, n, b, c, r.1, fun S' H' σ' env' Lf' cls dx xn e o' xa q => h _ _ _ _ (r.2 S' H' σ' env' Lf' cls dx xn e o' xa q)⟩
/-- try: body / except c: suite -/
def sTry (db : DS) (cat : List (Str × Bool)) (dsu : DS) : DS := fun De env => db { De with xc := fun xn env' => match catLook cat xn.c with
  | some true => dsu { De with xc := fun _ _ => False } env'
  | some false => De.xc xn env'
  | none => False } env
theorem s_try {cat : List (Str × Bool)} {body suite : List Stmt} {b₀ : Stmt} {np pos' : Pos} {db dsu : DS} (hs : X.stack = X.env :: X.outer) (hf : X.env.frame = some X.env.locals) (hh : Hnd X.K X.mg x cat) (hg : Gl X x)
    (hb : ∀ (pn : List (Addr × Obj)) (xe : Value → Shared → Prop), PassesOwn (model X.prog X.w) X.A X.env xe → PSds (X.tr pn xe) body db)
    (hsu : ∀ (a : Addr) (pn : List (Addr × Obj)), PSds (X.suite a pn) (b₀ :: suite) dsu) (hdb : (x == ("__debug__" : Str)) = false := by decide) :
    PSd X (.Try body [.ExceptHandler (some (.Name x np)) none (b₀ :: suite) pos'] [] [] pos) (sTry db cat dsu) := by
  obtain ⟨c, hm, hcat⟩ := hh.ex
  have hc : Names X x c := ⟨hg, hdb, .inl hm⟩
  refine ps_weak (ps_try_only (tb := fun W => sOfW X.K X.mg W db) (ts := fun _ _ _ => sOfW X.K X.mg (fun _ _ _ _ => False) dsu) hs hf hc (takes_Wx X) (fun W pn xe tk hp => pss_weak (hb pn xe hp) fun D σ H h => sOfW_imp (fun cls d σ H w => Wx_of tk w) h)
    (fun a oe cls d pn _ _ => pss_weak (hsu a _) fun D σ H h => sOfW_imp (fun _ _ _ _ z => z.elim) h)) fun D σ H ⟨S0, H0, S, env, Lf, De, o, hd, n, bb, cc, r⟩ => ?_
  refine ⟨S0, H0, S, env, Lf, _, o, hd, n, bb, cc, r.1, fun S' H' σ' env' Lf' cls dx xn e o' xa q => ?_⟩
  cases el : catLook cat xn.c with
  | none => simp only [el] at q
  | some b =>
    refine ⟨b, cat_at hcat xa el, fun hb1 a ha => ?_, fun hb1 => ?_⟩
    · subst hb1
      simp only [el] at q
      exact ⟨S0, H0, S', env', Lf', _, o', q, fun S2 H2 σ2 env2 Lf2 e2 => n S2 H2 σ2 env2 Lf2 (e.trans e2), fun S2 H2 σ2 env2 Lf2 e2 => bb S2 H2 σ2 env2 Lf2 (e.trans e2), fun S2 H2 σ2 env2 Lf2 e2 => cc S2 H2 σ2 env2 Lf2 (e.trans e2), r.1, fun _ _ _ _ _ _ _ _ _ _ _ z => z.elim⟩
    · subst hb1
      simp only [el] at q
      exact r.2 S' H' σ' env' Lf' cls dx xn e o' xa q
/-- try: body / except c: suite / except c2: suite2 -/
def sTry2 (db : DS) (cat : List (Str × Bool)) (dsu : DS) (cat2 : List (Str × Bool)) (dsu2 : DS) : DS := fun De env => db { De with xc := fun xn env' => match catLook cat xn.c with
  | some true => dsu { De with xc := fun _ _ => False } env'
  | some false => (match catLook cat2 xn.c with
    | some true => dsu2 { De with xc := fun _ _ => False } env'
    | some false => De.xc xn env'
    | none => False)
  | none => False } env
theorem s_try2 {x2 : Str} {cat cat2 : List (Str × Bool)} {body suite suite2 : List Stmt} {b₀ b₂ : Stmt} {np pos' np2 pos2' : Pos} {db dsu dsu2 : DS} (hs : X.stack = X.env :: X.outer) (hf : X.env.frame = some X.env.locals) (hh : Hnd X.K X.mg x cat) (hg : Gl X x) (hh2 : Hnd X.K X.mg x2 cat2) (hg2 : Gl X x2)
    (hb : ∀ (pn : List (Addr × Obj)) (xe : Value → Shared → Prop), PassesOwn (model X.prog X.w) X.A X.env xe → PSds (X.tr pn xe) body db)
    (hsu : ∀ (a : Addr) (pn : List (Addr × Obj)), PSds (X.suite a pn) (b₀ :: suite) dsu) (hsu2 : ∀ (a : Addr) (pn : List (Addr × Obj)), PSds (X.suite a pn) (b₂ :: suite2) dsu2) (hdb : (x == ("__debug__" : Str)) = false := by decide) (hdb2 : (x2 == ("__debug__" : Str)) = false := by decide) :
    PSd X (.Try body [.ExceptHandler (some (.Name x np)) none (b₀ :: suite) pos', .ExceptHandler (some (.Name x2 np2)) none (b₂ :: suite2) pos2'] [] [] pos) (sTry2 db cat dsu cat2 dsu2) := by
  obtain ⟨c, hm, hcat⟩ := hh.ex
  obtain ⟨c2, hm2, hcat2⟩ := hh2.ex
  have hc : Names X x c := ⟨hg, hdb, .inl hm⟩
  have hc2 : Names X x2 c2 := ⟨hg2, hdb2, .inl hm2⟩
  refine ps_weak (ps_try_many (l := [(c, fun _ _ _ => sOfW X.K X.mg (fun _ _ _ _ => False) dsu), (c2, fun _ _ _ => sOfW X.K X.mg (fun _ _ _ _ => False) dsu2)]) (tb := fun W => sOfW X.K X.mg W db) hs hf (takes_Wx X) (fun W pn xe tk hp => pss_weak (hb pn xe hp) fun D σ H h => sOfW_imp (fun cls d σ H w => Wx_of tk w) h)
    (.cons hc (fun a oe cls d pn _ _ => pss_weak (hsu a _) fun D σ H h => sOfW_imp (fun _ _ _ _ z => z.elim) h) (.cons hc2 (fun a oe cls d pn _ _ => pss_weak (hsu2 a _) fun D σ H h => sOfW_imp (fun _ _ _ _ z => z.elim) h) .nil))) fun D σ H ⟨S0, H0, S, env, Lf, De, o, hd, n, bb, cc, r⟩ => ?_
  refine ⟨S0, H0, S, env, Lf, _, o, hd, n, bb, cc, r.1, fun S' H' σ' env' Lf' cls dx xn e o' xa q => ?_⟩
  have end_ : ∀ {d : DS}, d { De with xc := fun _ _ => False } env' → sOfW X.K X.mg (fun _ _ _ _ => False) d D σ' H' := fun {d} q => ⟨S0, H0, S', env', Lf', _, o', q, fun S2 H2 σ2 env2 Lf2 e2 => n S2 H2 σ2 env2 Lf2 (e.trans e2), fun S2 H2 σ2 env2 Lf2 e2 => bb S2 H2 σ2 env2 Lf2 (e.trans e2), fun S2 H2 σ2 env2 Lf2 e2 => cc S2 H2 σ2 env2 Lf2 (e.trans e2), r.1, fun _ _ _ _ _ _ _ _ _ _ _ z => z.elim⟩
  cases el : catLook cat xn.c with
  | none => simp only [el] at q
  | some b =>
    refine ⟨b, cat_at hcat xa el, fun hb1 a ha => ?_, fun hb1 => ?_⟩
    · subst hb1
      simp only [el] at q
      exact end_ q
    · subst hb1
      simp only [el] at q
      cases el2 : catLook cat2 xn.c with
      | none => simp only [el2] at q
      | some b2 =>
        refine ⟨b2, cat_at hcat2 xa el2, fun hb2 a ha => ?_, fun hb2 => ?_⟩
        · subst hb2
          simp only [el2] at q
          exact end_ q
        · subst hb2
          simp only [el2] at q
          exact r.2 S' H' σ' env' Lf' cls dx xn e o' xa q
end
end W

/-! FV: int(x), l.index(i); raise C(e), C with its own __init__; the head's facts and one Bool more. -/
namespace W
open PySem L2
section
variable {X : Cx} {K : PySem.W.Frag} {a b e : Expr} {ba bb be : BT} {pos p2 p : Pos} {j k : Nat}
def fInt : SpD
  | [.int i], Q => Q (.sh (.int i))
  | [.bl b], Q => Q (.sh (.int (if b then 1 else 0)))
  | _, _ => False
theorem c_int : BlD X (.type "int") fInt := by
  refine ⟨_, call_int1, fun S H vs ds Q Qd hS h hf hQ => ?_⟩
  unfold fInt at hf
  split at hf
  · obtain ⟨v, rfl, a⟩ := ats1 h
    cases a
    exact .inl ⟨_, rfl, hQ _ _ _ _ (.sh hS (.int _)) hf⟩
  · obtain ⟨v, rfl, a⟩ := ats1 h
    cases a
    exact .inr ⟨_, rfl, hQ _ _ _ _ (.sh hS (.int _)) hf⟩
  · exact hf.elim
theorem fInt_i {i : Int} {Q : T → Prop} : fInt [.int i] Q = Q (.sh (.int i)) := rfl
theorem fInt_b {b : Bool} {Q : T → Prop} : fInt [.bl b] Q = Q (.sh (.int (if b then 1 else 0))) := rfl
/-- l.index(i) -/
def bIndex (ba bb : BT) : BT := fun env Q => ba env fun x => ∃ ns : List Int, x.d = .lst (ns.map .int) ∧ bb env fun y => ∃ k : Int, y.d = .int k ∧ ∃ j : Nat, ns[j]? = some k ∧ (∀ (m : Nat) (z : Int), m < j → ns[m]? = some z → z ≠ k) ∧ Q (.sh (.int j))
theorem b_index {apos cpos : Pos} (ha : PB X a ba) (hb : PB X b bb) (hbase : attributeBase a "index" X.env (eval a X.env) = eval a X.env := by rfl)
    (hfew : ((backTo cpos (starEach [b] X.env)).all (fun x => !x.1) && (backToKw cpos (keywordEach [] X.env)).all (fun x => x.1.isSome) && decide (([b] : List Expr).length + ([] : List Keyword).length + (if ([] : List Keyword).isEmpty then 0 else 1) < 30)) = true := by rfl)
    (hline : (apos.endLine == cpos.line) = true := by rfl) (hs : starEach [b] X.env = (false, eval b X.env) :: starEach [] X.env := by rfl) (hplain : (backTo cpos (starEach [] X.env)).any (·.1) = false := by rfl) :
    PB X (.Call (.Attribute a "index" apos) [b] [] cpos) (bIndex ba bb) :=
  pe_weak (pe_bm PySem.F.plainAttrs_list PySem.F.slot_list_index PySem.F.type_list_index mt_index ha (pa_cons hb pa_nil hs) hbase hfew hline hs hplain) fun σ H Q ⟨S, env, Qd, hS, hE, hh, hQ⟩ => by
  refine ⟨S, env, _, hS, hE, hh, fun v S1 H1 t O ⟨ns, h1, q⟩ => ?_⟩
  obtain ⟨S2, e2, l2, a2⟩ := O.share
  rw [h1] at a2
  cases a2 with
  | @lst p xs _ hp hx =>
    have := hx.ints
    subst this
    refine ⟨.inl ⟨rfl, _, .inl (.inl (e2.le _ _ hp))⟩, S2, env, _, e2.le, hE.mono e2.s, q, fun w S3 H3 u O3 ⟨k, h2, j, h3, h4, h5⟩ => ?_⟩
    obtain ⟨S4, e4, l4, a4⟩ := O3.share
    rw [h2] at a4
    cases a4
    refine ⟨p, _, .int k, j, .int k, rfl, rfl, .inl (.inl (e4.le _ _ (e4.s _ _ hp))), rfl, flat_ints ns, by rw [List.getElem?_map, h3]; rfl, by simp [eqV], fun m z hm hz => ?_, hQ _ S4 H3 _ ((Out.sh e4.le (.int _)).from (e2.trans e4)) h5⟩
    rw [List.getElem?_map] at hz
    obtain ⟨z', hz', rfl⟩ := Option.map_eq_some_iff.mp hz
    have := h4 m z' hm hz'
    simp [eqV, this]
/-! ### raise C(e) -/
/-- what the head tells of an exception class with an own __init__ that keeps a place -/
def sp_low (K : PySem.W.Frag) : Sp := fun vs H Q _ => ∃ (a : Addr) (y : V) (C : Addr), vs = [.ref a, y] ∧ OexC K C ∧ PySem.W.findIn K (.ref C) "place" = some none ∧ H a = some (exo a C none) ∧ ∀ dx, H dx = none → dx ≠ a → Q .non (upd (upd H dx (exd dx [("place", y)])) a (exo a C (some dx)))
structure LowC (P : Program) (w : PySem.World) (K : PySem.W.Frag) (mg : Str → Option Value) (base : Heap) (n : Str) : Prop where
  ex : ∃ (C fI : Addr) (fd : FuncData), mg n = some (.ref C) ∧ OexC K C ∧ PySem.W.findIn K (.ref C) "__init__" = some (some (.ref fI)) ∧ PySem.W.typeIn K (.ref fI) = some (.type "function") ∧ PySem.W.findIn K (.ref C) "place" = some none ∧
    FnOk P w K mg base CX0 1 fI fd ["self", "place"] (sp_low K) ∧ Binds K fd ["self", "place"] []
def flatD : D → Prop
  | .non => True
  | .int _ => True
  | _ => False
/-- raise C(e): e None or an int -/
def sRaiseP (c : Str) (b : BT) : DS := fun De env => b (hide env) fun t => flatD t.d ∧ De.xc ⟨c, some t.d⟩ env
theorem flat_at {S : Hp} {v : V} {d : D} (h : At K S v d) (f : flatD d) : flatAt v d := by
  cases h with
  | non => trivial
  | int i => exact rfl
  | _ => exact f.elim
theorem s_raiseP {c : Str} {t : BT} (hc : X.calm = true) (T : LowC X.prog X.w X.K X.mg X.base c) (hr : Room k X.A) (hk : 2 ≤ k) (hg : Gl X c) (he : PB X e t) (hdb : (c == ("__debug__" : Str)) = false := by decide)
    (hs : starEach [e] X.env = (false, eval e X.env) :: starEach [] X.env := by rfl) (hpl : (backTo pos (starEach [] X.env)).any (·.1) = false := by rfl) :
    PSd X (.Raise (some (.Call (.Name c p) [e] [] pos)) none p2) (sRaiseP c t) := by
  obtain ⟨C, fI, fd, gC, T1, iC, tI, hno, F1, B⟩ := T.ex
  refine ps_weak (ps_raise hc (takes_Wx X) (pmk_oex (ds := []) (dvs := []) T1 iC tI F1 (hr.mono hk : Room (1 + 1) X.A) B .nil (fun _ _ _ _ _ _ _ z => z.elim) hg gC (pa_cons he pa_nil hs) hdb hs hpl)) fun D σ H ⟨S0, H0, S, env, Lf, De, o, hd, n, bb, cc, r⟩ => ?_
  refine ⟨S, hide env, _, o.ext.le, o.hid, hd, fun v S1 H1 u O ⟨hf, q⟩ => ?_⟩
  obtain ⟨S2, e2, l2, a2⟩ := O.share
  refine ⟨by show 1 ≤ 1000; decide, fun a ha => ⟨a, v, C, rfl, T1, hno, upd_same, fun dx hdx ne => ⟨rfl, dx, [("place", v)], upd_same, ?_, ?_, ?_⟩⟩⟩
  · rw [upd_ne ne, upd_same]
  · rw [upd_ne ne] at hdx
    exact hdx
  · have hdx1 : H1 dx = none := by rw [upd_ne ne] at hdx; exact hdx
    have eH : ∀ b, b ≠ dx → upd (del (upd (upd (upd H1 a (exo a C none)) dx (exd dx [("place", v)])) a (exo a C (some dx))) a) dx (.xd [("place", v)]) b = H1 b := fun b hb => by
      rw [upd_ne hb]
      by_cases hba : b = a
      · rw [hba, del_same, ha]
      · rw [del_ne hba, upd_ne hba, upd_ne hb, upd_ne hba]
    have hm : Same H1 (upd (del (upd (upd (upd H1 a (exo a C none)) dx (exd dx [("place", v)])) a (exo a C (some dx))) a) dx (.xd [("place", v)])) := fun b u hb => by
      rw [eH b (ne_of_none hb hdx1)]
      exact hb
    have e3 : Ext S2 H1 S2 _ := ⟨.refl _, hm, e2.le.trans hm, fun _ _ _ => rfl⟩
    exact r.2 S2 _ σ env Lf _ _ ⟨c, some u.d⟩ e2.s (o.grow (e2.trans e3)) ⟨C, gC, rfl, dx, v, rfl, upd_same, flat_at a2 hf⟩ q
end
/-! ### the head's facts and one Bool more -/
def obsY (n : Nat) (fa : List He.Fa) (fn : List He.DefD) (ex : PySem.W.Frag → Bool) (g : Addr → Option Obj) : He.AlD × Bool := (He.obsDG n fa fn g, ex (He.frG g (He.asD g n)))
def hookY (n : Nat) (fa : List He.Fa) (fn : List He.DefD) (ex : PySem.W.Frag → Bool) : PySem.W.Hook where
  α := He.AlD × Bool
  obs := fun s => obsY n fa fn ex s.heap.get?
  val := fun _ => (He.valD fn, true)
  says := fun _ h => ∃ K : PySem.W.Frag, K.In h ∧ He.SaysD fa fn K ∧ ex K = true
  of := fun _ _ e => ⟨_, He.frG_in, congrArg (fun z : He.AlD × Bool => z.1) e, congrArg (fun z : He.AlD × Bool => z.2) e⟩
  keeps := fun _ _ _ ⟨K, hK, c⟩ k => ⟨K, PySem.W.Frag.In.keeps hK k, c⟩
theorem obsY_eq {n : Nat} {fa : List He.Fa} {fn : List He.DefD} {ex : PySem.W.Frag → Bool} {g : Addr → Option Obj} {s : Shared} (h : ∀ a, g a = s.heap.get? a) : obsY n fa fn ex g = (hookY n fa fn ex).obs s := by
  have e : g = s.heap.get? := funext h
  rw [e] <;> rfl
/-- an exception class with its own __init__ that stores one field -/
def lowB (n f : Str) (K : PySem.W.Frag) : Bool := (match K.lookup (He.ga K n) with
  | some ⟨.type "type", _, .cls cd, sl⟩ => (match cd.mro, sl.toList with
    | .ref C' :: bm, [_, _, _, _, some (.builtin m), _] => C' == He.ga K n && m == "ValueError.__new__" && !cd.hasDel && cd.hasDict && PySem.HandSPX.refsVE bm
    | _, _ => false)
  | _ => false) && (He.eqO (PySem.W.findIn K (.ref (He.ga K n)) "__setattr__") (some (some (.builtin "object.__setattr__"))) && (decide (PySem.W.subIn K (.ref (He.ga K n)) (.type "BaseException") = some true) && (decide (PySem.W.typeIn K (.ref (He.ga K n)) = some (.type "type")) && (PySem.W.keepIn K (.ref (He.ga K n)) &&
  (He.eqO (PySem.W.findIn K (.ref (He.ga K n)) "__init__") (some (some (.ref (He.ma K (He.ga K n) "__init__")))) && (decide (PySem.W.typeIn K (.ref (He.ma K (He.ga K n) "__init__")) = some (.type "function")) && He.eqO (PySem.W.findIn K (.ref (He.ga K n)) f) (some none)))))))
theorem lowB_ok {n f : Str} {K : PySem.W.Frag} (h : lowB n f K = true) : OexC K (He.ga K n) ∧ PySem.W.findIn K (.ref (He.ga K n)) "__init__" = some (some (.ref (He.ma K (He.ga K n) "__init__"))) ∧ PySem.W.typeIn K (.ref (He.ma K (He.ga K n) "__init__")) = some (.type "function") ∧
    PySem.W.findIn K (.ref (He.ga K n)) f = some none := by
  obtain ⟨q, h⟩ := He.ba h
  obtain ⟨h1, h⟩ := He.ba h
  obtain ⟨h2, h⟩ := He.ba h
  obtain ⟨h3, h⟩ := He.ba h
  obtain ⟨h4, h⟩ := He.ba h
  obtain ⟨h5, h⟩ := He.ba h
  obtain ⟨h6, h7⟩ := He.ba h
  refine ⟨⟨?_, He.eqO_ok h1, of_decide_eq_true h2, of_decide_eq_true h3, h4⟩, He.eqO_ok h5, of_decide_eq_true h6, He.eqO_ok h7⟩
  split at q
  · rename_i dd cd sl ho
    split at q
    · rename_i C' bm k0 k1 k2 k3 m k5 hm hs
      simp only [Bool.and_eq_true, beq_iff_eq, Bool.not_eq_true'] at q
      obtain ⟨⟨⟨⟨rfl, rfl⟩, hdel⟩, hdi⟩, ht⟩ := q
      obtain ⟨nm, bs, mro, ns, qn, hd, sn, sub, ab, col, del⟩ := cd
      dsimp only at hm hdel hdi
      subst hm hdel hdi
      have hsl : sl = #[k0, k1, k2, k3, some (.builtin "ValueError.__new__"), k5] := by
        obtain ⟨l⟩ := sl
        simp only at hs
        rw [hs]
      subst hsl
      exact ⟨nm, qn, ns, bs, bm, sn, sub, ab, col, dd, k0, k1, k2, k3, k5, ho, ht⟩
    · cases q
  · cases q
theorem low_mk {P : Program} {w : PySem.World} {K : PySem.W.Frag} {mg : Str → Option Value} {base : Heap} {n : Str} {params : Arguments} {body : List Stmt} {scope : Scope} {fd : FuncData} {qual : Str} (hm : mg n = some (.ref (He.ga K n))) (h : lowB n "place" K = true)
    (F : FunD K "__init__" qual params body scope [] [] (He.ma K (He.ga K n) "__init__") fd) (b : Binds K fd ["self", "place"] []) (S : FnScope ["self", "place"] ["self", "place"] scope)
    (hbody : ∀ (cdv : Value) (A : Around) (outer : List PySem.Env) (s : Shared) (H : Hp) (E : XK), PSs (cxOf CX0 P w K mg base ["self", "place"] qual scope (He.ma K (He.ga K n) "__init__") cdv A outer s H E) body (tOst K "place" (tVar 0) (tVar 1))) : LowC P w K mg base n := by
  obtain ⟨h1, h2, h3, h4⟩ := lowB_ok h
  refine ⟨_, _, fd, hm, h1, h2, h3, h4, F.ok S (fun vs H Q E ⟨a, y, C, e, _⟩ => by rw [e]; rfl) (fun cdv A outer s H vs Q E hr ⟨a, y, C, e, T, hno, ha, q⟩ => ⟨_, hbody cdv A outer s H E, ?_⟩), b⟩
  subst e
  exact ⟨y, rfl, .ref a, rfl, a, C, rfl, T, hno, .inl ⟨ha, fun dx hdx ne => q dx hdx ne⟩⟩
end W

/-! FW: sets of ints: &, != , len(set(tuple)). -/
namespace W
open PySem PySem.Spec PyProof.Rows L2
section
variable {P : Program} {w : World} {A : Around} {E : Value → Shared → Prop} {s : Shared} {a b r : Addr} {S T : Int → Bool} {n m : Nat}
theorem entry_set_and : entryFor table "set.__and__" = some Builtin.«frozenset.__and__» := entryFor_alias (id' := "frozenset.__and__") (by kernel_rfl) rfl (by decide +kernel) (by kernel_rfl)
theorem entry_set_ne : entryFor table "set.__ne__" = some Builtin.«frozenset.__ne__» := entryFor_alias (id' := "frozenset.__ne__") (by kernel_rfl) rfl (by decide +kernel) (by kernel_rfl)
theorem and_body (x y : Value) : Builtin.«frozenset.__and__» ⟨[x, y], []⟩ = (do
    let (self, other) ← Builtin.Frozenset.slot1 "__and__" ⟨[x, y], []⟩
    if !(← Builtin.Frozenset.isAnySet self <&&> Builtin.Frozenset.isAnySet other) then rule "frozenset.__and__.declined"; return ← ret .notImplemented
    ret (← Builtin.Frozenset.intersection "frozenset.__and__" (← Builtin.Frozenset.addrOf self) other)) := rfl
theorem isAny_of {Q : Bool → Shared → Prop} (hT : s.TypeIs (.ref a) "set") (h : Q true s) : wpAny (model P w) A (Builtin.Frozenset.isAnySet (.ref a)) Q E s := by
  unfold Builtin.Frozenset.isAnySet
  refine wpAny_bind (wpAny_isInstance hT sub_set_self ?_)
  exact wpAny_pure h
theorem setR_ty (R : SetR w s.heap a S n) : s.TypeIs (.ref a) "set" := by
  obtain ⟨o, es, ep, t, ho, hx, _⟩ := R
  exact ⟨o, ho, hx.1⟩
theorem baseOf_of {Q : Value → Shared → Prop} (hT : s.TypeIs (.ref a) "set") (h : Q (.type "set") s) : wpAny (model P w) A (Builtin.Frozenset.baseOf a) Q E s := by
  unfold Builtin.Frozenset.baseOf
  refine wpAny_bind (wpAny_isInstance hT sub_set_self ?_)
  exact wpAny_pure h
/-- a set's ints, in some order -/
theorem walk_of {Q : Array (Int × Value) → Shared → Prop} (R : SetR w s.heap a S n) (hp : ∀ o es ep t, s.heap.get? a = some o → o.data = .set es ep t → w.params.followText "set-order" = true ∨ t.plain = true ∨ es.size ≤ 1)
    (h : ∀ ws : Array (Int × Value), ws.size = n → (∀ e ∈ ws.toList, GoodE e) → (∀ k, S k = true ↔ k ∈ ws.toList.map keyOf) → Q ws s) : wpAny (model P w) A (setWalk a) Q E s := by
  obtain ⟨o, es, ep, t, ho, hx, hd, g, nd, hm, hb, hf, hn, _, hl⟩ := R
  have hp := hp o es ep t ho hd
  unfold setWalk
  refine wpAny_bind (wpAny_setState_of ho hd hf ?_)
  dsimp only
  refine wpAny_bind (wpAny_byText ?_)
  by_cases hbt : w.params.followText "set-order" = true
  · refine wp_if_pos hbt ?_
    refine wpAny_bind (wpAny_askSetting (wpAny_pure ?_))
    have pm := pick_perm (w.params.setOrder a ep) es
    exact h _ (show (pickOrder (w.params.setOrder a ep) es).size = n by rw [← Array.length_toList, pm.length_eq, Array.length_toList, hn]) (fun e he => g e (pm.mem_iff.mp he)) fun k => (hm k).trans (pm.map keyOf).mem_iff.symm
  · refine wp_if_neg hbt ?_
    have hl2 : t.led = true := hl.resolve_left hbt
    have hp2 := hp.resolve_left hbt
    have hdr : (!t.plain && decide (es.size > 1)) = false := by
      rcases hp2 with h | h
      · rw [h]; rfl
      · rw [decide_eq_false (by omega), Bool.and_false]
    refine wpAny_bind (wpAny_pure ?_)
    refine wp_if_neg (by show ¬ ((!t.plain && decide (es.size > 1)) = true); rw [hdr]; exact Bool.false_ne_true) ?_
    refine wpAny_bind (wpAny_of_eq (a := ()) ?_ ?_)
    · show (if (!t.led && decide (es.size > 1)) = true then unsupported "set:maker-not-led" else pure ()) = pure ()
      rw [hl2] <;> rfl
    · exact wpAny_pure (h es hn g hm)
theorem quiet_of {l : List Addr} {Q : Bool → Shared → Prop} (hl : ∀ a ∈ l, ∃ S n, SetR w s.heap a S n) (h : Q true s) : wpAny (model P w) A (setsQuiet l) Q E s := by
  unfold setsQuiet
  refine wpAny_bind (wpAny_forIn_list _ (fun rest (b : Option Bool × Unit) s' => s' = s ∧ b.1 = none ∧ ∀ a ∈ rest, ∃ S n, SetR w s.heap a S n) _ ?_ ?_ l _ ⟨rfl, rfl, hl⟩)
  · rintro a rest b s' ⟨rfl, hb, hr⟩
    obtain ⟨S, n, o, es, ep, t, ho, hx, hd, g, nd, hm, hsb, hf, hn, _, hled⟩ := hr a (by simp)
    refine wpAny_bind (wpAny_setEntries_of ho hd hf ?_)
    refine wpAny_bind (wpAny_forIn_array' _ (fun rest2 (b : Option Bool × Unit) s2 => s2 = s' ∧ b.1 = none ∧ ∀ e ∈ rest2, GoodE e) _ ?_ ?_ es _ ⟨rfl, rfl, g⟩)
    · rintro e rest2 b2 s2 ⟨rfl, hb2, hg2⟩
      obtain ⟨k, tk, e1, e2⟩ := hg2 e (by simp)
      obtain ⟨e0, ev⟩ := e
      dsimp only at e1
      subst e1
      exact wpAny_pure ⟨rfl, rfl, fun e he => hg2 e (List.mem_cons_of_mem _ he)⟩
    · rintro ⟨b1, b2⟩ s2 ⟨rfl, hb2, _⟩
      dsimp only at hb2
      subst hb2
      exact wpAny_pure ⟨rfl, rfl, fun a ha => hr a (List.mem_cons_of_mem _ ha)⟩
  · rintro ⟨b1, b2⟩ s' ⟨rfl, hb, _⟩
    dsimp only at hb
    subst hb
    exact wpAny_pure h
/-- the walk of one set that fills another -/
theorem unseen_of {Q : Array (Int × Value) → Shared → Prop} {U : Int → Bool} {c : Nat} (R : SetR w s.heap a S n) (R2 : SetR w s.heap b T m) (R3 : SetR w s.heap r U c) (hra : r ≠ a)
    (h : ∀ (ws : Array (Int × Value)) (h' : Heap), Heap.SameBut r s.heap h' → SetR w h' r U c → ws.size = n → (∀ e ∈ ws.toList, GoodE e) → (∀ k, S k = true ↔ k ∈ ws.toList.map keyOf) → Q ws { s with heap := h' }) : wpAny (model P w) A (setWalkUnseen a [b, r] (some r)) Q E s := by
  have R' := R
  obtain ⟨o, es, ep, t, ho, hx, hd, g, nd, hm, hb, hf, hn, hr, hl⟩ := R
  have hw : (∀ o' es' ep' t', s.heap.get? a = some o' → o'.data = .set es' ep' t' → es' = es ∧ t' = t) := fun o' es' ep' t' e1 e2 => by
    rw [ho] at e1
    cases e1
    rw [hd] at e2
    cases e2
    exact ⟨rfl, rfl⟩
  unfold setWalkUnseen
  refine wpAny_bind (wpAny_setState_of ho hd hf ?_)
  dsimp only
  refine wpAny_bind (wpAny_byText ?_)
  by_cases hc : (w.params.followText "set-order" || (t.led && t.plain) || decide (es.size ≤ 1)) = true
  · refine wp_if_pos hc ?_
    refine walk_of R' (fun o' es' ep' t' e1 e2 => ?_) fun ws w0 w1 w2 => h ws s.heap (Heap.SameBut.refl _ _) R3 w0 w1 w2
    obtain ⟨rfl, rfl⟩ := hw o' es' ep' t' e1 e2
    simp only [Bool.or_eq_true, Bool.and_eq_true, decide_eq_true_eq] at hc
    rcases hc with (hc | hc) | hc
    · exact .inl hc
    · exact .inr (.inl hc.2)
    · exact .inr (.inr hc)
  · refine wp_if_neg hc ?_
    have hbt : ¬ w.params.followText "set-order" = true := fun z => hc (by rw [z]; rfl)
    refine wpAny_bind (quiet_of (l := [a, b, r]) (fun x hx => ?_) ?_)
    · rcases List.mem_cons.mp hx with rfl | hx
      · exact ⟨_, _, R'⟩
      · rcases List.mem_cons.mp hx with rfl | hx
        · exact ⟨_, _, R2⟩
        · rw [List.mem_singleton] at hx
          subst hx
          exact ⟨_, _, R3⟩
    refine wp_if_neg (by decide) ?_
    refine wpAny_bind (wpAny_rule ?_)
    have R3' := R3
    obtain ⟨o3, es3, ep3, t3, ho3, hx3, hd3, g3, nd3, hm3, hb3, hf3, hn3, hr3, hl3⟩ := R3
    refine wpAny_bind (wpAny_setState_of ho3 hd3 hf3 ?_)
    dsimp only
    split
    · refine wpAny_bind (wpAny_storeSet_of ho3 hd3 ?_ (fits_of_scanBound hb3))
      refine wpAny_pure (h es _ (Heap.SameBut.update s.heap r _) ?_ hn g hm)
      have ho1 := store_at (es' := es3) (t' := { t3 with led := t3.led && t.led, plain := t3.plain && t.plain }) ho3 hd3
      exact ⟨_, es3, _, _, ho1, hx3, rfl, g3, nd3, hm3, hb3, hf3, hn3, hr3, .inr (by rw [hl.resolve_left hbt, hl3.resolve_left hbt]; rfl)⟩
    · exact wpAny_pure (h es s.heap (Heap.SameBut.refl _ _) R3' hn g hm)
theorem inter_loop {ws : List (Int × Value)} {Wa K r : Addr} {Sw Sk : Int → Bool} {nw nk ep0 : Nat} {Q : PUnit → Shared → Prop} (Rw : SetR w s.heap Wa Sw nw) (Rk : SetR w s.heap K Sk nk) (R : SetR w s.heap r (fun _ => false) 0) (hw : Wa ≠ r) (hk : K ≠ r)
    (hep : ∀ o es ep t, s.heap.get? Wa = some o → o.data = .set es ep t → ep = ep0) (hg : ∀ e ∈ ws, GoodE e) (hl : ws.length < 1000)
    (h : ∀ h' c U, SetR w h' r U c → (∀ k, U k = (Sk k && decide (k ∈ ws.map keyOf))) → (∀ x o, x ≠ r → s.heap.get? x = some o → h'.get? x = some o) → Q ⟨⟩ { s with heap := h' }) :
    wpAny (model P w) A (forIn ws PUnit.unit fun x _ => (do
      let (hh, y) := x
      holding [y] do
        if (← setFind K y hh).isSome then
          let _ ← setAddHashed r y hh
      Builtin.Frozenset.unchanged "frozenset.__and__" Wa ep0
      pure (ForInStep.yield PUnit.unit))) Q E s := by
  refine wpAny_forIn_list _ (fun rest (_ : PUnit) s' => ∃ (h' : Heap) (done : List (Int × Value)) (c : Nat) (U : Int → Bool), s' = { s with heap := h' } ∧ ws = done ++ rest ∧ SetR w h' r U c ∧ (∀ k, U k = (Sk k && decide (k ∈ done.map keyOf))) ∧ c ≤ done.length ∧ ∀ x o, x ≠ r → s.heap.get? x = some o → h'.get? x = some o) _ ?_ ?_ ws _ ⟨s.heap, [], 0, _, rfl, rfl, R, fun k => by simp, Nat.le_refl _, fun _ _ _ e => e⟩
  · rintro ⟨hh, y⟩ rest _ s' ⟨h', done, c, U, rfl, hx, RU, hU, hc, hkp⟩
    obtain ⟨k, tk, e1, e2⟩ := hg (hh, y) (by rw [hx]; simp)
    dsimp only at e1 e2
    subst e1 e2
    have Rk' : SetR w h' K Sk nk := Rk.at fun o e => hkp K o hk e
    have hlen : done.length < 1000 := by
      rw [hx, List.length_append] at hl
      omega
    have tail : ∀ {h2 : Heap}, (∀ x o, x ≠ r → h'.get? x = some o → h2.get? x = some o) → ∀ {c2 : Nat} {U2 : Int → Bool}, SetR w h2 r U2 c2 → c2 ≤ c + 1 → (∀ j, U2 j = (Sk j && decide (j ∈ (done ++ [(hashInt k, Value.int k tk)]).map keyOf))) →
        wpAny (model P w) A (do Builtin.Frozenset.unchanged "frozenset.__and__" Wa ep0; pure (ForInStep.yield PUnit.unit)) (fun r_1 s' => match r_1 with
          | .yield b' => ∃ (h'_1 : Heap) (done : List (Int × Value)) (c : Nat) (U : Int → Bool), s' = { s with heap := h'_1 } ∧ ws = done ++ rest ∧ SetR w h'_1 r U c ∧ (∀ k, U k = (Sk k && decide (k ∈ done.map keyOf))) ∧ c ≤ done.length ∧ ∀ x o, x ≠ r → s.heap.get? x = some o → h'_1.get? x = some o
          | .done b' => Q b' s') E { s with heap := h2 } := fun {h2} k2 {c2 U2} R2 hc2 hU2 => by
      obtain ⟨o, es, ep, t, ho, hx2, hd, g, nd, hm, hb, hf, _⟩ := Rw
      have ep1 := hep o es ep t ho hd
      subst ep1
      unfold Builtin.Frozenset.unchanged
      refine wpAny_bind (wpAny_bind (wpAny_setEpoch_of (s := { s with heap := h2 }) (k2 Wa o hw (hkp Wa o hw ho)) hd hf ?_))
      refine wp_if_neg (by simp) ?_
      exact wpAny_pure (wpAny_pure ⟨h2, done ++ [(hashInt k, Value.int k tk)], c2, U2, rfl, by rw [hx, List.append_assoc]; rfl, R2, hU2, by rw [List.length_append]; simp; omega, fun x o n e => k2 x o n (hkp x o n e)⟩)
    refine wpAny_bind (wpAny_holding ?_)
    refine wpAny_bind (wpAny_setFind_of (knd := intKind P w) (k := k) (intKind_is P w k tk) rfl Rk'.setOf fun q hq => ?_)
    have hmem : ∀ j, decide (j ∈ (done ++ [(hashInt k, Value.int k tk)]).map keyOf) = (decide (j ∈ done.map keyOf) || decide (j = k)) := fun j => by
      rw [List.map_append, show [(hashInt k, Value.int k tk)].map keyOf = [k] from rfl]
      by_cases h1 : j ∈ done.map keyOf <;> by_cases h2 : j = k <;> simp only [List.mem_append, List.mem_singleton, h1, h2, true_or, or_true, or_false, false_or, decide_true, decide_false, Bool.or_true, Bool.true_or, Bool.or_false, Bool.false_or]
    by_cases hqs : q.isSome = true
    · refine wp_if_pos hqs ?_
      rw [hqs] at hq
      refine wpAny_bind (setR_add_hashed (s := { s with heap := h' }) RU (by unfold scanBound; omega) fun h2 sb R2 => wpAny_pure ?_)
      refine wpAny_mono (tail (fun x o n e => (sb.2 x n).trans e) R2 (by split <;> omega) fun j => ?_) (fun r s' h => by cases r <;> exact h) fun _ _ z => z
      rw [hmem, hU]
      by_cases hj : j = k
      · subst hj
        rw [← hq]
        simp
      · rw [decide_eq_false hj, Bool.or_false, Bool.or_false]
    · refine wp_if_neg hqs (wpAny_pure ?_)
      have hq' : Sk k = false := by rw [← hq]; simpa using hqs
      refine wpAny_mono (tail (fun x o n e => e) RU (by omega) fun j => ?_) (fun r s' h => by cases r <;> exact h) fun _ _ z => z
      rw [hmem, hU]
      by_cases hj : j = k
      · subst hj
        rw [hq']
        rfl
      · rw [decide_eq_false hj, Bool.or_false]
  · rintro _ s' ⟨h', done, c, U, rfl, hx, RU, hU, hc, hkp⟩
    rw [List.append_nil] at hx
    subst hx
    exact h h' c U RU hU hkp
theorem setR_sz {Q : Nat → Shared → Prop} (R : SetR w s.heap a S n) (h : Q n s) : wpAny (model P w) A (Builtin.Frozenset.sizeOf a) Q E s := by
  obtain ⟨o, es, ep, t, ho, hx, hd, g, nd, hm, hb, hf, hn, _⟩ := R
  unfold Builtin.Frozenset.sizeOf
  refine wpAny_bind (wpAny_setEntries_of ho hd hf (wpAny_pure ?_))
  rw [hn]
  exact h
theorem newSet_at {Q : Value → Shared → Prop} (h : ∀ h' : Heap, SetR w h' s.heap.objs.size (fun _ => false) 0 → (∀ x o, s.heap.get? x = some o → h'.get? x = some o) → Q (.ref s.heap.objs.size) { s with heap := h' }) : wpAny (model P w) A (newSet (.type "set")) Q E s := by
  unfold newSet setsByText
  refine wpAny_bind (wpAny_bind (wpAny_askSetting (wpAny_pure ?_)))
  dsimp only
  simp only [newObj]
  exact wpAny_bind (wpAny_alloc (wpAny_pure (h _ (setR_fresh w) fun x o e => Heap.get?_push_of_some _ e)))
theorem inter_core {walked asked r : Addr} {Sw Sk : Int → Bool} {nw nk : Nat} {Q : Unit → Shared → Prop} (Rw : SetR w s.heap walked Sw nw) (Rk : SetR w s.heap asked Sk nk) (R : SetR w s.heap r (fun _ => false) 0) (hw : walked ≠ r) (hk : asked ≠ r) (hn : nw < 500)
    (h : ∀ (h' : Heap) (c : Nat) (U : Int → Bool), SetR w h' r U c → (∀ k, U k = (Sw k && Sk k)) → (∀ x o, x ≠ r → s.heap.get? x = some o → h'.get? x = some o) → Q () { s with heap := h' }) :
    wpAny (model P w) A (do
      let was ← setEpoch walked
      let __do_lift ← setWalkUnseen walked [asked, r] (some r)
      forIn __do_lift PUnit.unit fun x __s =>
          match x with
          | (h, x) => do
            holding [x] do
                let __do_lift ← setFind asked x h
                if __do_lift.isSome = true then do
                    let _ ← setAddHashed r x h
                    pure ()
                  else pure ()
            Builtin.Frozenset.unchanged "frozenset.__and__" walked was
            pure (ForInStep.yield PUnit.unit)
      pure ()) Q E s := by
  have Rw' := Rw
  obtain ⟨o, es, ep, t, ho, hx, hd, g, nd, hm, hb, hf, hnn, _⟩ := Rw
  refine wpAny_bind (wpAny_setEpoch_of ho hd hf ?_)
  refine wpAny_bind (unseen_of Rw' Rk R hw.symm fun ws h1 sb R1 z1 g1 m1 => ?_)
  have Rw1 : SetR w h1 walked Sw nw := Rw'.at fun o e => (sb.2 walked hw).trans e
  have Rk1 : SetR w h1 asked Sk nk := Rk.at fun o e => (sb.2 asked hk).trans e
  refine wpAny_bind ?_
  rw [← Array.forIn_toList]
  refine inter_loop (s := { s with heap := h1 }) (ep0 := ep) Rw1 Rk1 R1 hw hk (fun o' es' ep' t' e1 e2 => ?_) g1 (by rw [Array.length_toList]; omega) fun h2 c U R2 hU k2 => wpAny_pure (h h2 c U R2 (fun k => ?_) fun x o n e => k2 x o n ((sb.2 x n).trans e))
  · have e1 : h1.get? walked = some o' := e1
    rw [sb.2 walked hw, ho] at e1
    cases e1
    rw [hd] at e2
    cases e2
    rfl
  · rw [hU, Bool.and_comm]
    congr 1
    cases e : Sw k with
    | true => exact decide_eq_true ((m1 k).mp e)
    | false => exact decide_eq_false fun z => by rw [(m1 k).mpr z] at e; cases e
theorem inter_of {Q : Value → Shared → Prop} (Ra : SetR w s.heap a S n) (Rb : SetR w s.heap b T m) (hab : b ≠ a) (hn : n < 500) (hm : m < 500)
    (h : ∀ (h' : Heap) (c : Nat) (U : Int → Bool), SetR w h' s.heap.objs.size U c → (∀ k, U k = (S k && T k)) → (∀ x o, s.heap.get? x = some o → h'.get? x = some o) → Q (.ref s.heap.objs.size) { s with heap := h' }) :
    wpAny (model P w) A (Builtin.Frozenset.intersection "frozenset.__and__" a (.ref b)) Q E s := by
  unfold Builtin.Frozenset.intersection
  refine wp_if_neg (by simpa using hab) ?_
  refine wpAny_bind (baseOf_of (setR_ty Ra) ?_)
  refine wpAny_bind (newSet_at fun h1 R0 k1 => ?_)
  have Ra1 : SetR w h1 a S n := Ra.at fun o e => k1 a o e
  have Rb1 : SetR w h1 b T m := Rb.at fun o e => k1 b o e
  have na : a ≠ s.heap.objs.size := Nat.ne_of_lt Ra.lt
  have nb : b ≠ s.heap.objs.size := Nat.ne_of_lt Rb.lt
  refine wpAny_bind (wpAny_pure ?_)
  refine wpAny_bind (wpAny_holding ?_)
  refine wpAny_bind (isAny_of (s := { s with heap := h1 }) (setR_ty (s := { s with heap := h1 }) Rb1) ?_)
  refine wp_if_pos rfl ?_
  refine wpAny_bind (wpAny_pure ?_)
  refine wpAny_bind (setR_sz Rb1 (s := { s with heap := h1 }) ?_)
  refine wpAny_bind (setR_sz Ra1 (s := { s with heap := h1 }) ?_)
  by_cases hc : m > n
  · rw [if_pos hc]
    dsimp only
    refine inter_core (s := { s with heap := h1 }) Ra1 Rb1 R0 na nb hn fun h2 c U R2 hU k2 => wpAny_pure ?_
    exact h h2 c U R2 hU fun x o e => k2 x o (fun z => by rw [z] at e; exact absurd (Heap.lt_size e) (Nat.lt_irrefl _)) (k1 x o e)
  · rw [if_neg hc]
    dsimp only
    refine inter_core (s := { s with heap := h1 }) Rb1 Ra1 R0 nb na hm fun h2 c U R2 hU k2 => wpAny_pure ?_
    exact h h2 c U R2 (fun k => by rw [hU, Bool.and_comm]) fun x o e => k2 x o (fun z => by rw [z] at e; exact absurd (Heap.lt_size e) (Nat.lt_irrefl _)) (k1 x o e)
theorem and_of {Q : Value → Shared → Prop} (Ra : SetR w s.heap a S n) (Rb : SetR w s.heap b T m) (hab : b ≠ a) (hn : n < 500) (hm : m < 500)
    (h : ∀ (h' : Heap) (c : Nat) (U : Int → Bool), SetR w h' s.heap.objs.size U c → (∀ k, U k = (S k && T k)) → (∀ x o, s.heap.get? x = some o → h'.get? x = some o) → Q (.ref s.heap.objs.size) { s with heap := h' }) :
    wpAny (model P w) A (binaryOp .BitAnd (.ref a) (.ref b)) Q E s := by
  refine wpAny_binaryOp_same (setR_ty Ra) (setR_ty Rb) F.fills_set_and F.slot_set_and ?_
  refine wpAny_call_entry F.slot_set_and (setR_ty Ra) entry_set_and ?_ (F.args_set_and_2 _ _)
  rw [and_body]
  unfold Builtin.Frozenset.slot1 slotArgs
  simp only [List.isEmpty_nil, Bool.not_true, Bool.false_eq_true, ↓reduceIte, bind_assoc, List.length_cons, List.length_nil, bne_self_eq_false]
  refine wpAny_bind (wpAny_pure ?_)
  refine wpAny_bind (wpAny_pure ?_)
  refine wpAny_bind (wpAny_bind (isAny_of (setR_ty Ra) ?_))
  refine isAny_of (setR_ty Rb) ?_
  refine wp_if_neg (by decide) ?_
  refine wpAny_bind (wpAny_pure ?_)
  refine wpAny_bind (inter_of Ra Rb hab hn hm fun h' c U R2 hU k2 => ?_)
  exact wpAny_pure ⟨_, rfl, (fun z => by cases z), h h' c U R2 hU k2⟩
theorem ne_of {Q : Value → Shared → Prop} (Ra : SetR w s.heap a S n) (Rb : SetR w s.heap b (fun _ => false) 0) (hu : A.units < cLine) (h : Q (.bool (!decide (n = 0))) s) : wpAny (model P w) A (compareOp .NotEq (.ref a) (.ref b)) Q E s := by
  show wpAny _ _ (richCompare .NotEq (.ref a) (.ref b)) _ _ _
  refine wpAny_richCompare_same_room (setR_ty Ra) (setR_ty Rb) F.slot_set_ne ?_ hu
  refine wpAny_call_entry F.slot_set_ne (setR_ty Ra) entry_set_ne ?_ (F.args_set_ne_2 _ _)
  refine (show wpAny _ _ (Builtin.Frozenset.slot1 "__ne__" ⟨[.ref a, .ref b], []⟩ >>= _) _ _ _ from ?_)
  unfold Builtin.Frozenset.slot1 slotArgs
  simp only [List.isEmpty_nil, Bool.not_true, Bool.false_eq_true, ↓reduceIte, bind_assoc, List.length_cons, List.length_nil, bne_self_eq_false]
  refine wpAny_bind (wpAny_pure ?_)
  refine wpAny_bind (wpAny_pure ?_)
  dsimp only
  refine wpAny_bind (isAny_of (setR_ty Rb) ?_)
  refine wp_if_neg (by decide) ?_
  refine wpAny_bind (wpAny_pure ?_)
  refine wpAny_bind (wpAny_pure ?_)
  refine wpAny_bind (setR_sz Ra ?_)
  refine wpAny_bind (setR_sz Rb ?_)
  by_cases hn : n = 0
  · subst hn
    refine wpAny_bind (wp_if_neg (by decide) ?_)
    refine wpAny_bind (wpAny_bind (wpAny_isInstance (setR_ty Ra) F.sub_set_frozenset ?_))
    refine wpAny_pure ?_
    refine wp_if_neg (by decide) ?_
    unfold Builtin.Frozenset.subsetOf
    refine wpAny_bind (setR_sz Ra ?_)
    refine wpAny_bind (setR_sz Rb ?_)
    refine wp_if_neg (by decide) ?_
    obtain ⟨o, es, ep, t, ho, hx, hd, g, nd, hm, hb, hf, hnn, _⟩ := Ra
    obtain ⟨o2, es2, ep2, t2, ho2, hx2, hd2, g2, nd2, hm2, hb2, hf2, hnn2, _⟩ := Rb
    have e1 : es = #[] := Array.eq_empty_of_size_eq_zero hnn
    have e2 : es2 = #[] := Array.eq_empty_of_size_eq_zero hnn2
    subst e1 e2
    refine wpAny_bind (wpAny_setEpoch_of ho hd hf ?_)
    refine wpAny_bind ?_
    unfold Builtin.Frozenset.walkUnseen
    refine wpAny_bind (wpAny_setEntries_of ho hd hf ?_)
    refine wpAny_bind (wpAny_setEntries_of ho2 hd2 hf2 ?_)
    refine wpAny_bind (wpAny_pure ?_)
    refine wpAny_pure ?_
    refine wpAny_bind (wpAny_pure ?_)
    refine wpAny_pure ?_
    exact wpAny_pure ⟨_, rfl, (fun z => by cases z), h⟩
  · refine wpAny_bind (wp_if_pos (by simpa using hn) (wpAny_pure ?_))
    refine wpAny_pure ⟨_, rfl, (fun z => by cases z), ?_⟩
    rw [decide_eq_false hn] at h
    exact h
end
end W

/-! FX: sets of ints over the hand layer and over data. -/
namespace W
open PySem PySem.Spec PyProof.Rows L2
section
variable {X : Cx} {a b : Expr} {ba bb : BT}
theorem setR_nil {w : World} {h : Heap} {a : Addr} {S : Int → Bool} {n : Nat} (R : SetR w h a S n) : n = 0 ↔ ∀ k, S k = false := by
  obtain ⟨o, es, ep, t, ho, hx, hd, g, nd, hm, hb, hf, hn, _⟩ := R
  constructor
  · intro z k
    cases e : S k with
    | false => rfl
    | true =>
      have := (hm k).mp e
      have e2 : es = #[] := Array.eq_empty_of_size_eq_zero (by omega)
      subst e2
      simp at this
  · intro h
    cases e : es.toList with
    | nil => rw [← hn, ← Array.length_toList, e]; rfl
    | cons x r =>
      have : S (keyOf x) = true := (hm _).mpr (by rw [e]; simp)
      rw [h] at this
      cases this
theorem setR_count {w : World} {h : Heap} {a : Addr} {S : Int → Bool} {n : Nat} (R : SetR w h a S n) {l : List Int} (nd : l.Nodup) (hl : ∀ k, k ∈ l ↔ S k = true) : n = l.length := by
  obtain ⟨o, es, ep, t, ho, hx, hd, g, nd2, hm, hb, hf, hn, _⟩ := R
  have p : (es.toList.map keyOf).Perm l := (List.perm_ext_iff_of_nodup nd2 nd).mpr fun k => by rw [hl, ← hm]
  rw [← hn, ← Array.length_toList, ← List.length_map (f := keyOf), p.length_eq]
/-- set(t), t a tuple of ints -/
def rSetTup (K : PySem.W.Frag) (w : World) : List V → Hp → VK → Prop := fun xs H Q => ∃ (l : Addr) (ns : List Int), xs = [.ref l] ∧ SqT K H l (ns.map V.int) ∧ ns.length ≤ 100 ∧ ∀ p c, H p = none → c ≤ ns.length → (∀ l : List Int, l.Nodup → (∀ k, k ∈ l ↔ k ∈ ns) → c = l.length) → Q (.ref p) (upd H p (SetO w p (fun k => decide (k ∈ ns)) c))
theorem cr_setTup (hc : X.calm = true) : CallR X (.type "set") (rSetTup X.K X.w) := by
  intro pins s σ H xs us Q I r h
  obtain ⟨l, ns, rfl, hq, hn, q⟩ := h
  obtain ⟨its, rv, hT, hz⟩ := I.tuple hq
  rw [Vals.ref1 r]
  refine call_set_tupI ns (I.ok.hd hc) hT (by simpa using rv.ints) (by unfold scanBound; omega) fun h' tk c R hcl k => ?_
  refine ⟨.ref _, upd H s.heap.objs.size (SetO X.w s.heap.objs.size (fun k => decide (k ∈ ns)) c), I.laid (t' := tk) k (Nat.le_refl _) (setO_new R), rfl, q _ _ (I.hok.fresh (Nat.le_refl _)) hcl fun l nd hl => setR_count R nd fun k => by rw [hl, decide_eq_true_iff]⟩
def rAndS (w : World) : R2 := fun x y H Q => ∃ (a b : Addr) (S T : Int → Bool) (n m : Nat), x = .ref a ∧ y = .ref b ∧ b ≠ a ∧ H a = some (SetO w a S n) ∧ H b = some (SetO w b T m) ∧ n < 500 ∧ m < 500 ∧
  ∀ p c U, H p = none → (∀ k, U k = (S k && T k)) → Q (.ref p) (upd H p (SetO w p U c))
theorem op_andS : OpR X (binaryOp .BitAnd) (rAndS X.w) := by
  intro pins s σ H x y v u Q I rx ry h
  obtain ⟨a, b, S, T, n, m, rfl, rfl, hab, ha, hb, hn, hm, q⟩ := h
  cases rx
  cases ry
  refine and_of (setO_get I ha) (setO_get I hb) hab hn hm fun h' c U R hU k => ?_
  exact ⟨.ref _, upd H s.heap.objs.size (SetO X.w s.heap.objs.size U c), I.laid (t' := s.toks) k (Nat.le_refl _) (setO_new R), rfl, q _ _ _ (I.hok.fresh (Nat.le_refl _)) hU⟩
def rNeS (w : World) : R2 := fun x y H Q => ∃ (a b : Addr) (S : Int → Bool) (n : Nat), x = .ref a ∧ y = .ref b ∧ H a = some (SetO w a S n) ∧ H b = some (SetO w b (fun _ => false) 0) ∧ ∀ c : Bool, (c = true ↔ ∃ k, S k = true) → Q (.bl c) H
theorem op_neS (hu : X.A.units + 64 < cLine) : OpR X (compareOp .NotEq) (rNeS X.w) := by
  intro pins s σ H x y v u Q I rx ry h
  obtain ⟨a, b, S, n, rfl, rfl, ha, hb, q⟩ := h
  cases rx
  cases ry
  have Ra := setO_get I ha
  refine ne_of Ra (setO_get I hb) (by omega) ⟨.bl (!decide (n = 0)), H, I, rfl, q _ ?_⟩
  have hn := setR_nil Ra
  rw [Bool.not_eq_true', decide_eq_false_iff_not, hn]
  constructor
  · intro h
    by_cases e : ∃ k, S k = true
    · exact e
    · exact absurd (fun k => by cases z : S k with | false => rfl | true => exact absurd ⟨k, z⟩ e) h
  · rintro ⟨k, hk⟩ h
    rw [h k] at hk
    cases hk
def rLenS (w : World) : List V → Hp → VK → Prop := fun xs H Q => ∃ (a : Addr) (S : Int → Bool) (n : Nat), xs = [.ref a] ∧ H a = some (SetO w a S n) ∧ n ≤ 1000 ∧ Q (.int n) H
theorem call_lenS : CallR X (.builtin "len") (rLenS X.w) := by
  intro pins s σ H xs us Q I r h
  obtain ⟨a, S, n, rfl, ha, hn, q⟩ := h
  rw [Vals.ref1 r]
  obtain ⟨o, es, ep, t, ho, hx, hd, g, nd, hm, hb, hf, hnn, _⟩ := setO_get I ha
  refine call_len_set ho hx hd hf (by omega) ⟨.int n, H, I.tok _, ⟨_, by rw [hnn]⟩, q⟩
/-! ### over data -/
theorem ext_new {S H : Hp} {p : Addr} {o : HO} (e : Same S H) (n : H p = none) : Ext S H S (upd H p o) := ⟨.refl _, same_new n, e.trans (same_new n), fun _ _ _ => rfl⟩
/-- set(s) & set(t) != set(), s and t tuples of ints -/
def bMeet (ba bb : BT) : BT := fun env Q => ba env fun x => ∃ ns : List Int, x.d = .tup (ns.map .int) ∧ ns.length ≤ 100 ∧ bb env fun y => ∃ ms : List Int, y.d = .tup (ms.map .int) ∧ ms.length ≤ 100 ∧ Q (.sh (.bl (ns.any fun k => decide (k ∈ ms))))
theorem b_meet {p1 p2 p3 q1 q2 q3 pos1 pos : Pos} (hc : X.calm = true) (hu : X.A.units + 64 < cLine) (hm : X.mg "set" = none) (hg : Gl X "set") (ha : PB X a ba) (hb : PB X b bb)
    (na : starEach [a] X.env = (false, eval a X.env) :: starEach [] X.env := by rfl) (nb : starEach [b] X.env = (false, eval b X.env) :: starEach [] X.env := by rfl) :
    PB X (.Compare (.BinOp (.Call (.Name "set" p1) [a] [] q1) .BitAnd (.Call (.Name "set" p2) [b] [] q2) pos1) [.NotEq] [.Call (.Name "set" p3) [] [] q3] pos) (bMeet ba bb) :=
  pe_weak (pe_cmpR (op_neS hu) (pe_op op_andS (pe_callTy (cr_setTup hc) hg hm PyProof.Rows.boot_set (pa_cons ha pa_nil na) (by decide) (by decide) na rfl) (pe_callTy (cr_setTup hc) hg hm PyProof.Rows.boot_set (pa_cons hb pa_nil nb) (by decide) (by decide) nb rfl)) (pe_callTy0 cr_set0 hg hm PyProof.Rows.boot_set) (nomark _)) fun σ H Q ⟨S, env, Qd, hS, hE, hh, hQ⟩ => by
  refine ⟨S, env, _, hS, hE, hh, fun x S1 H1 t1 O1 ⟨ns, h1, l1, q1⟩ => ?_⟩
  obtain ⟨S2, e1, _, a1⟩ := O1.share
  rw [h1] at a1
  cases a1 with
  | @tup p xs _ hp hx =>
  have ex := hx.ints
  subst ex
  refine ⟨p, ns, rfl, same_t e1.le hp, l1, fun p1 c1 n1 k1 m1 => ?_⟩
  have f1 : Ext S2 H1 S2 (upd H1 p1 (SetO X.w p1 (fun k => decide (k ∈ ns)) c1)) := ⟨.refl _, same_new n1, e1.le.trans (same_new n1), fun _ _ _ => rfl⟩
  have g1 := e1.trans f1
  refine ⟨S2, env, _, g1.le, hE.mono g1.s, q1, fun y S3 H3 t3 O3 ⟨ms, h2, l2, q2⟩ => ?_⟩
  obtain ⟨S4, e3, _, a3⟩ := O3.share
  rw [h2] at a3
  have hp1 : H3 p1 = some (SetO X.w p1 (fun k => decide (k ∈ ns)) c1) := e3.h _ _ upd_same
  cases a3 with
  | @tup r ys _ hr hy =>
  have ey := hy.ints
  subst ey
  refine ⟨r, ms, rfl, same_t e3.le hr, l2, fun p2 c2 n2 k2 m2 => ?_⟩
  have d21 : p2 ≠ p1 := fun e => by rw [e, hp1] at n2; cases n2
  refine ⟨p1, p2, _, _, c1, c2, rfl, rfl, d21, (upd_ne (Ne.symm d21)).trans hp1, upd_same, by omega, by omega, fun p3 c3 U n3 hU => ?_⟩
  refine ⟨rfl, fun p4 n4 => ?_⟩
  have d43 : p4 ≠ p3 := fun e => by rw [e, upd_same] at n4; cases n4
  refine ⟨p3, p4, U, c3, rfl, rfl, (upd_ne (Ne.symm d43)).trans upd_same, upd_same, fun c hcv => ?_⟩
  have f2 := ext_new (o := SetO X.w p2 (fun k => decide (k ∈ ms)) c2) e3.le n2
  have f3 := ext_new (o := SetO X.w p3 U c3) f2.le n3
  have f4 := ext_new (o := SetO X.w p4 (fun _ => false) 0) f3.le n4
  have ec : c = ns.any fun k => decide (k ∈ ms) := by
    rw [Bool.eq_iff_iff, hcv]
    simp [hU]
  rw [← ec] at q2
  exact hQ _ _ _ _ ((Out.sh f4.le (.bl c)).from ((((g1.trans e3).trans f2).trans f3).trans f4)) q2
/-- len(set(t)), t a tuple of ints -/
def bLenSet (ba : BT) : BT := fun env Q => ba env fun x => ∃ ns : List Int, x.d = .tup (ns.map .int) ∧ ns.length ≤ 100 ∧ ∃ l : List Int, l.Nodup ∧ (∀ k, k ∈ l ↔ k ∈ ns) ∧ Q (.sh (.int l.length))
theorem b_lenSet {p1 p2 q1 q2 : Pos} (hc : X.calm = true) (hm : X.mg "set" = none) (hg : Gl X "set") (hm2 : X.mg "len" = none) (hg2 : Gl X "len") (ha : PB X a ba)
    (na : starEach [a] X.env = (false, eval a X.env) :: starEach [] X.env := by rfl)
    (nb : starEach [.Call (.Name "set" p1) [a] [] q1] X.env = (false, eval (.Call (.Name "set" p1) [a] [] q1) X.env) :: starEach [] X.env := by rfl) :
    PB X (.Call (.Name "len" p2) [.Call (.Name "set" p1) [a] [] q1] [] q2) (bLenSet ba) :=
  pe_weak (pe_callB call_lenS hg2 hm2 boot_len (pa_cons (pe_callTy (cr_setTup hc) hg hm PyProof.Rows.boot_set (pa_cons ha pa_nil na) (by decide) (by decide) na rfl) pa_nil nb) (by decide) (by decide) nb rfl) fun σ H Q ⟨S, env, Qd, hS, hE, hh, hQ⟩ => by
  refine ⟨S, env, _, hS, hE, hh, fun x S1 H1 t1 O1 ⟨ns, h1, l1, l, nd, hl, q1⟩ => ?_⟩
  obtain ⟨S2, e1, _, a1⟩ := O1.share
  rw [h1] at a1
  cases a1 with
  | @tup p xs _ hp hx =>
  have ex := hx.ints
  subst ex
  refine ⟨p, ns, rfl, same_t e1.le hp, l1, fun p1 c1 n1 k1 m1 => ?_⟩
  have f1 := ext_new (o := SetO X.w p1 (fun k => decide (k ∈ ns)) c1) e1.le n1
  refine ⟨p1, _, c1, rfl, upd_same, by omega, ?_⟩
  have ec := m1 l nd hl
  subst ec
  exact hQ _ _ _ _ ((Out.sh f1.le (.int _)).from (e1.trans f1)) q1
end
end W

/-! FY: while, x -= e. -/
namespace W
open PySem L2
section
variable {X : Cx} {K : PySem.W.Frag} {c e : Expr} {q : BTT} {body : List Stmt} {du : DS} {pos p2 : Pos} {b : BT}
/-- by an invariant with its measure -/
def sWhile (q : BTT) (d : DS) : DS := fun De env => ∃ I : Nat → List (Option T) → Prop, (∃ m, I m env) ∧ ∀ m env', I m env' → q env' fun k => (k = true → d ⟨fun z => ∃ m', m' < m ∧ I m' z, De.rt, De.nx, fun z => ∃ m', m' < m ∧ I m' z, De.xc⟩ env') ∧ (k = false → De.nx env')
theorem s_while (hp : PassesOwn (model X.prog X.w) X.A X.env X.xe) (hc : PQ X c q) (hb : PSds X body du) : PSd X (.While c body [] pos) (sWhile q du) := ps_weak (ps_while hp hc hb) fun D σ H ⟨S0, H0, S, env, Lf, De, o, ⟨I, ⟨m0, h0⟩, hst⟩, n, bk, ct, r⟩ => by
  refine ⟨fun m σ' H' => ∃ S' env' Lf', Same S S' ∧ Own X.K S0 H0 S' H' σ' env' Lf' ∧ I m env', ⟨m0, S, env, Lf, .refl _, o, h0⟩, ?_⟩
  rintro m σ' H' ⟨S', env', Lf', es, o', hI⟩
  refine ⟨lent S' H' Lf', env', _, o'.lentH, o'.lendE, hst m env' hI, fun k S1 H1 e1 ⟨h1, h2⟩ => ?_⟩
  have e2 := o'.back e1
  have o2 := o'.grow e2
  cases k with
  | true =>
    refine iteT ⟨fun σ2 H2 => ∃ m', m' < m ∧ ∃ S2 env2 Lf2, Same S S2 ∧ Own X.K S0 H0 S2 H2 σ2 env2 Lf2 ∧ I m' env2, fun σ2 H2 h => h, ?_⟩
    refine ⟨S0, H0, _, env', Lf', _, o2, h1 rfl, fun S3 H3 σ3 env3 Lf3 e3 o3 ⟨m', hm, h3⟩ => ⟨m', hm, S3, env3, Lf3, (es.trans e2.s).trans e3, o3, h3⟩, fun S3 H3 σ3 env3 Lf3 e3 o3 h3 => n S3 H3 σ3 env3 Lf3 ((es.trans e2.s).trans e3) o3 h3,
      fun S3 H3 σ3 env3 Lf3 e3 o3 ⟨m', hm, h3⟩ => ⟨m', hm, S3, env3, Lf3, (es.trans e2.s).trans e3, o3, h3⟩, r.1, r.2.step (es.trans e2.s)⟩
  | false => exact iteF (n _ _ _ _ _ (es.trans e2.s) o2 (h2 rfl))
/-- x -= e -/
def sSubA (i : Nat) (b : BT) : DS := fun De env => ∃ a, nth env i = some (.sh (.int a)) ∧ b (hide env) fun t => ∃ c, t.d = .int c ∧ De.nx (env.set i (some (.sh (.int (a - c)))))
theorem s_subA {i : Nat} {x : Str} (hN : X.N.Nodup) (hi : X.N[i]? = some x) (hx : Loc X.env.scope x) (he : PB X e b) (hf : X.fn x = true ∨ X.env.scope.names.lookup x = some .local := by first | exact .inl rfl | exact .inr rfl | assumption) :
    PSd X (.AugAssign (.Name x p2) .Sub e pos) (sSubA i b) := ps_weak (ps_aug hN hi hx he ip_sub hf) fun D σ H ⟨S0, H0, S, env, Lf, De, o, ⟨a, ha, hd⟩, n, bk, ct, r⟩ => by
  obtain ⟨v, h1, h2⟩ := o.slot i _ ha
  generalize hL : Lf i = L at h2
  cases h2 with
  | sh h3 =>
  cases h3
  refine ⟨_, h1, S, hide env, _, o.ext.le, o.hid, hd, fun y S1 H1 t1 O1 ⟨c, h4, q1⟩ => ?_⟩
  obtain ⟨S2, e2, l2, a2⟩ := O1.share
  rw [h4] at a2
  cases a2
  refine ⟨a, c, rfl, rfl, ?_⟩
  have hl : i < env.length := by rw [← o.len]; exact (List.getElem?_eq_some_iff.mp h1).1
  have hput : (Tg.n i).put (.sh (.int (a - c))) env = some (env.set i (some (.sh (.int (a - c))))) := by
    rfl
  exact own_put (o.grow e2) (.sh (.int _)) ⟨List.nodup_nil, fun _ m => by cases m⟩ hput fun σ2 Lf2 o2 => n S2 _ σ2 _ Lf2 e2.s o2 q1
/-! ### for x in l: x.append(e), l a list of lists of ours -/
def appd (uss : List (List D)) (d : D) (k : Nat) : List T := (uss.take k).map (fun us => T.ow (us ++ [d])) ++ (uss.drop k).map T.ow
theorem appd_0 {uss : List (List D)} {d : D} : appd uss d 0 = uss.map T.ow := by simp [appd]
theorem appd_n {uss : List (List D)} {d : D} : appd uss d uss.length = (uss.map (· ++ [d])).map T.ow := by simp [appd]
theorem appd_at {uss : List (List D)} {d : D} {k : Nat} (h : k < uss.length) : (appd uss d k)[k]? = some (.ow uss[k]) := by
  unfold appd
  rw [List.getElem?_append_right (by simp; omega)]
  simp [Nat.min_eq_left (Nat.le_of_lt h), h]
theorem appd_k {A B : List (List D)} {x : List D} {d : D} : appd (A ++ x :: B) d A.length = A.map (fun us => T.ow (us ++ [d])) ++ .ow x :: B.map T.ow := by simp [appd]
theorem appd_k1 {A B : List (List D)} {x : List D} {d : D} : appd (A ++ x :: B) d (A.length + 1) = A.map (fun us => T.ow (us ++ [d])) ++ .ow (x ++ [d]) :: B.map T.ow := by
  have e : (A ++ x :: B) = (A ++ [x]) ++ B := by simp
  rw [e]
  unfold appd
  rw [List.take_left' (by simp), List.drop_left' (by simp)]
  simp
theorem appd_set {uss : List (List D)} {d : D} {k : Nat} (h : k < uss.length) : (appd uss d k).set k (.ow (uss[k] ++ [d])) = appd uss d (k + 1) := by
  have e : uss = uss.take k ++ uss[k] :: uss.drop (k + 1) := by rw [List.getElem_cons_drop, List.take_append_drop]
  have hl : (uss.take k).length = k := by simp; omega
  generalize uss[k] = x at e ⊢
  generalize uss.take k = A at e hl
  generalize uss.drop (k + 1) = B at e
  subst e
  subst hl
  rw [appd_k, appd_k1, List.set_append_right _ _ (by simp)]
  simp
theorem appd_len {uss : List (List D)} {d : D} {k : Nat} (h : k ≤ uss.length) : (appd uss d k).length = uss.length := by unfold appd; simp; omega
def sForApp (i j : Nat) (be : BT) : DS := fun De env => i ≠ j ∧ j < env.length ∧ ∃ (uss : List (List D)) (d : D), nth env i = some (.ows (uss.map T.ow)) ∧ (∀ us ∈ uss, us.length < 100000) ∧ (∀ env' Q, (∀ t : T, t.d = d → Q t) → be env' Q) ∧
  ∀ u, De.nx ((env.set j u).set i (some (.ows ((uss.map (· ++ [d])).map T.ow))))
theorem nth_self {env : List (Option T)} {i : Nat} {t : T} (h : nth env i = some t) : env.set i (some t) = env := by
  have := nth_get.mp h
  obtain ⟨hl, e⟩ := List.getElem?_eq_some_iff.mp this
  rw [← e]
  exact List.set_getElem_self hl
theorem s_forApp {be : BT} {i j : Nat} {y l : Str} {p1 p2 p3 p4 p5 p6 : Pos} (hp : PassesOwn (model X.prog X.w) X.A X.env X.xe) (hc : X.calm = true) (hN : X.N.Nodup) (hi : X.N[i]? = some l) (hj : X.N[j]? = some y) (hvl : Vis X.env.scope l) (hvy : Vis X.env.scope y) (hlo : Loc X.env.scope y) (he : PB X e be)
    (hf : X.fn y = true ∨ X.env.scope.names.lookup y = some .local := by first | exact .inl rfl | exact .inr rfl | assumption)
    (hd : (l == ("__debug__" : Str)) = false := by decide) (hcd : (l == ("__classdict__" : Str)) = false := by decide) (hd2 : (y == ("__debug__" : Str)) = false := by decide) (hcd2 : (y == ("__classdict__" : Str)) = false := by decide)
    (hfi : ∀ x, foldedSetIterable (.Name l p2) X.env x = pure x := by intro _; rfl)
    (hbase : attributeBase (.Name y p3) "append" X.env (eval (.Name y p3) X.env) = eval (.Name y p3) X.env := by rfl)
    (hfew : ((backTo p5 (starEach [e] X.env)).all (fun x => !x.1) && (backToKw p5 (keywordEach [] X.env)).all (fun x => x.1.isSome) && decide (([e] : List Expr).length + ([] : List Keyword).length + (if ([] : List Keyword).isEmpty then 0 else 1) < 30)) = true := by rfl)
    (hline : (p4.endLine == p5.line) = true := by rfl) (hs : starEach [e] X.env = (false, eval e X.env) :: starEach [] X.env := by rfl) (hplain : (backTo p5 (starEach [] X.env)).any (·.1) = false := by rfl)
    (hsw : swapsWith (.Call (.Attribute (.Name y p3) "append" p4) [e] [] p5) none p6.line X.env = pure false := by rfl) :
    PSd X (.For (.Name y p1) (.Name l p2) [.Expr (.Call (.Attribute (.Name y p3) "append" p4) [e] [] p5) p6] [] pos) (sForApp i j be) :=
  ps_weak (ps_for hp hc (pi_list (pe_var hi hvl hd hcd)) (pg_name hN hj hlo hf) (pss_one (ps_expr (pe_bm PySem.F.plainAttrs_list PySem.F.slot_list_append PySem.F.type_list_append mt_append (pe_var hj hvy hd2 hcd2) (pa_cons he pa_nil hs) hbase hfew hline hs hplain) hsw)) hfi)
  fun D σ H ⟨S0, H0, S, env, Lf, De, o, ⟨hij, hjl, uss, d, h1, hlen, hb, hq⟩, n, bk, ct, r⟩ => by
  obtain ⟨p, xs, L, g1, g2, g3, g4, g5⟩ := o.owsAt h1
  have hxl : xs.length = uss.length := by rw [g3.length, List.length_map]
  refine ⟨.ref p, g1, p, rfl, ⟨xs, .inl (.inl g2)⟩, ?_⟩
  refine for_list (xs := xs) (fun k σ' H' => H' p = some (.lst xs) ∧ σ'[i]? = some (some (.ref p)) ∧ ∃ S' u, Same S S' ∧ ∃ Lf', Own X.K S0 H0 S' H' σ' ((env.set j u).set i (some (.ows (appd uss d k)))) Lf') ⟨g2, g1, S, env[j], .refl _, Lf, ?_⟩ (fun k σ' H' _ h => .inl (.inl h.1)) (fun k x σ' H' hx h => ?_) (fun σ' H' h => ?_)
  · rw [List.set_getElem_self, appd_0, nth_self h1]
    exact o
  · obtain ⟨m1, m2, S', u, es, Lf', o'⟩ := h
    have hk : k < uss.length := by rw [← hxl]; exact (List.getElem?_eq_some_iff.mp hx).1
    have hl' : ((env.set j u).set i (some (.ows (appd uss d k)))).length = env.length := by simp
    have hn' : nth ((env.set j u).set i (some (.ows (appd uss d k)))) i = some (.ows (appd uss d k)) := by
      rw [nth_get, List.getElem?_set_self (by simpa using g5)]
    obtain ⟨p', ys, L', k1, k2, k3, k4, k5⟩ := o'.owsAt hn'
    rw [m2] at k1
    cases k1
    rw [m1] at k2
    cases k2
    obtain ⟨q2, zs, w1, w2, w3, w4, w5⟩ := ress_at k3 (appd_at hk)
    rw [hx] at w1
    cases w1
    have o2 := o'.put1 (j := j) (v := .ref q2) (t := .sh (.abs fun _ _ => True)) (L := []) (.sh (.abs fun _ _ => trivial)) ⟨List.nodup_nil, fun _ m => by cases m⟩ (by rw [hl']; exact hjl)
    have hE : (((env.set j u).set i (some (T.ows (appd uss d k)))).set j (some (T.sh (.abs fun _ _ => True)))) = (env.set j (some (T.sh (.abs fun _ _ => True)))).set i (some (T.ows (appd uss d k))) := by
      rw [List.set_comm _ _ hij, List.set_set]
    rw [hE] at o2
    have n4 : (fun z => if z = j then [] else Lf' z) i = p :: L' := by
      show (if i = j then [] else Lf' i) = _
      rw [if_neg hij, k4]
    generalize (fun z => if z = j then [] else Lf' z) = Lf2 at o2 n4
    have v2 : (List.set σ' j (some (V.ref q2)))[i]? = some (some (.ref p)) := by rw [List.getElem?_set_ne (Ne.symm hij)]; exact m2
    have vj : (List.set σ' j (some (V.ref q2)))[j]? = some (some (.ref q2)) := List.getElem?_set_self (by rw [o'.len, hl']; exact hjl)
    refine ⟨.ref q2, vj, .inl ⟨rfl, zs, .inl (.inl w3)⟩, S', _, _, o2.ext.le, o2.hid, hb _ _ (fun t ht => (ht : t.d = d)), fun v S3 H3 t O q => ?_⟩
    obtain ⟨ee, L3, rr, ff⟩ := O
    obtain ⟨o3, a3, e3⟩ := (o2.grow ee).shareP rr (o2.pend rr ff)
    have g3b : Ress X.K (shr S3 H3 L3) H3 xs (appd uss d k) L' := k3.mono (ee.s.trans e3) fun a m => o2.keepA (i := i) (by rw [n4]; exact List.mem_cons_of_mem _ m) ee.h
    obtain ⟨q3, zs3, y1, y2, y3, y4, y5⟩ := ress_at g3b (appd_at hk)
    rw [hx] at y1
    cases y1
    have nd := o2.nod i
    rw [n4] at nd
    have nd1 := List.nodup_cons.mp nd
    have hne : p ≠ q2 := fun z => nd1.1 (z ▸ w2)
    refine ⟨q2, zs, v, rfl, rfl, ee.h _ _ w3, by rw [w4.length]; exact lt_line (hlen _ (List.getElem_mem hk)), ?_⟩
    refine ⟨by rw [upd_ne hne]; exact ee.h _ _ m1, v2, shr S3 H3 L3, some (T.sh (.abs fun _ _ => True)), (es.trans ee.s).trans e3, Lf2, ?_⟩
    have key := o3.writeAt (i := i) (q := q2) (ys := zs ++ [v]) (t := .ows ((appd uss d k).set k (.ow (uss[k] ++ [t.d])))) (v := .ref p) (by simpa using g5) v2 (by rw [n4]; exact List.mem_cons_of_mem _ w2) (by
      rw [n4]
      refine .ows (xs := xs) ?_ (y5 nd1.2 _ _ ((w4.mono (ee.s.trans e3)).append (.cons a3 .nil)))
      rw [upd_ne hne]
      exact ee.h _ _ m1)
    rw [q, appd_set hk, List.set_set] at key
    exact key
  · obtain ⟨m1, m2, S', u, es, Lf', o'⟩ := h
    rw [hxl, appd_n] at o'
    exact n _ _ _ _ _ es o' (hq u)
end
end W

/-! FZ: for over a list of ours that is ours again behind the loop. -/
namespace W
open PySem L2
section
variable {X : Cx} {K : PySem.W.Frag} {S0 H0 S H S' H' S1 H1 : Hp} {σ : L2.St} {env : List (Option T)} {Lf : Nat → List Addr} {pos : Pos} {du : DS}
theorem Own.base (o : Own K S1 H1 S H σ env Lf) (e : Ext S0 H0 S1 H1) : Own K S0 H0 S H σ env Lf :=
  ⟨e.trans o.ext, o.len, o.slot, o.nod, o.dis, fun i a m => ⟨Same.none e.h (o.fr i a m).1, (o.fr i a m).2⟩⟩
theorem lent_back {L : Nat → List Addr} (f : ∀ i a, a ∈ L i → S a = none) (e : Ext (lent S H1 L) H S' H') : Ext S H (unlent S' L) H' where
  s := fun a u h => by
    by_cases m : ∃ i, a ∈ L i
    · obtain ⟨i, m⟩ := m
      rw [f i a m] at h; cases h
    · rw [unlent_out m]
      refine e.s a u ?_
      rw [lent_out m]; exact h
  h := e.h
  le := fun a u h => by
    by_cases m : ∃ i, a ∈ L i
    · obtain ⟨i, m⟩ := m
      rw [unlent_in m] at h; cases h
    · rw [unlent_out m] at h
      exact e.le a u h
  dom := fun a u h => by
    by_cases m : ∃ i, a ∈ L i
    · obtain ⟨i, m⟩ := m
      rw [unlent_in m, f i a m]
    · rw [unlent_out m, e.dom a u h, lent_out m]
/-- slot i alone of what is ours -/
def onlyL (i : Nat) (p : Addr) : Nat → List Addr := fun j => if j = i then [p] else []
theorem onlyL_in {i : Nat} {p a : Addr} : (∃ j, a ∈ onlyL i p j) ↔ a = p := by
  unfold onlyL
  constructor
  · rintro ⟨j, m⟩
    split at m
    · simpa using m
    · cases m
  · rintro rfl
    exact ⟨i, by simp⟩
theorem Own.only {i : Nat} {p : Addr} {ds : List D} (o : Own K S0 H0 S H σ env Lf) (h : nth env i = some (.ow ds)) (hL : Lf i = [p]) : Own K S0 H0 S H σ ((hide env).set i (some (.ow ds))) (onlyL i p) := by
  obtain ⟨v, h1, h2⟩ := o.slot i _ h
  have hi : i < (hide env).length := by rw [hide_len, ← o.len]; exact (List.getElem?_eq_some_iff.mp h1).1
  refine ⟨o.ext, by rw [List.length_set, hide_len]; exact o.len, fun j t ht => ?_, fun j => ?_, fun j k a m1 m2 => ?_, fun j a m => ?_⟩
  · rw [nth_set] at ht
    by_cases e : j = i
    · subst e
      rw [if_pos ⟨rfl, hi⟩] at ht
      cases ht
      refine ⟨v, h1, ?_⟩
      unfold onlyL
      rw [if_pos rfl, ← hL]
      exact h2
    · rw [if_neg (fun z => e z.1)] at ht
      obtain ⟨w, h3, h4⟩ := o.hid.2 j t ht
      rw [nth_hide] at ht
      obtain ⟨d, rfl⟩ := hideO_sh_of ht
      refine ⟨w, h3, ?_⟩
      unfold onlyL
      rw [if_neg e]
      exact .sh h4
  · unfold onlyL
    split <;> simp
  · unfold onlyL at m1 m2
    split at m1 <;> split at m2
    · rename_i z1 z2; rw [z1, z2]
    · cases m2
    · cases m1
    · cases m1
  · unfold onlyL at m
    split at m
    · refine o.fr i a ?_
      rw [hL]; exact m
    · cases m
open Classical in
noncomputable def frozen (i : Nat) (Lf : Nat → List Addr) (H : Hp) : Hp := fun a => if ∃ j, j ≠ i ∧ a ∈ Lf j then none else H a
theorem frozen_in {i : Nat} {a : Addr} (h : ∃ j, j ≠ i ∧ a ∈ Lf j) : frozen i Lf H a = none := by unfold frozen; exact if_pos h
theorem frozen_out {i : Nat} {a : Addr} (h : ¬ ∃ j, j ≠ i ∧ a ∈ Lf j) : frozen i Lf H a = H a := by unfold frozen; exact if_neg h
theorem frozen_le {i : Nat} : Same (frozen i Lf H) H := fun a u h => by
  by_cases m : ∃ j, j ≠ i ∧ a ∈ Lf j
  · rw [frozen_in m] at h; cases h
  · rw [frozen_out m] at h; exact h
abbrev opq (p : Addr) : V → Hp → Prop := fun v _ => v = .ref p
/-- slot i's list stands still -/
theorem Own.freeze {i : Nat} {p : Addr} (o : Own K S0 H0 S H σ env Lf) (hi : i < env.length) (h1 : σ[i]? = some (some (.ref p))) : Own K S (frozen i Lf H) S H σ (env.set i (some (.sh (.abs (opq p))))) (fun j => if j = i then [] else Lf j) := by
  refine ⟨⟨.refl _, frozen_le, o.ext.le, fun _ _ _ => rfl⟩, by rw [List.length_set]; exact o.len, fun j t ht => ?_, fun j => ?_, fun j k a m1 m2 => ?_, fun j a m => ?_⟩
  · rw [nth_set] at ht
    by_cases e : j = i
    · subst e
      rw [if_pos ⟨rfl, hi⟩] at ht
      cases ht
      refine ⟨_, h1, ?_⟩
      rw [if_pos rfl]
      exact .sh (.abs fun _ _ => rfl)
    · rw [if_neg (fun z => e z.1)] at ht
      obtain ⟨w, h3, h4⟩ := o.slot j t ht
      refine ⟨w, h3, ?_⟩
      rw [if_neg e]
      exact h4
  · show (if j = i then [] else Lf j).Nodup
    split
    · exact List.nodup_nil
    · exact o.nod j
  · have m1 : a ∈ if j = i then [] else Lf j := m1
    have m2 : a ∈ if k = i then [] else Lf k := m2
    split at m1
    · cases m1
    · split at m2
      · cases m2
      · exact o.dis j k a m1 m2
  · have m : a ∈ if j = i then [] else Lf j := m
    split at m
    · cases m
    · rename_i z
      exact ⟨frozen_in ⟨j, z, m⟩, (o.fr j a m).2⟩
theorem Own.frozen_ext {i : Nat} (o : Own K S0 H0 S H σ env Lf) : Ext S0 H0 S (frozen i Lf H) := by
  refine ⟨o.ext.s, fun a u h => ?_, fun a u h => ?_, o.ext.dom⟩
  · by_cases m : ∃ j, j ≠ i ∧ a ∈ Lf j
    · obtain ⟨j, _, m⟩ := m
      rw [(o.fr j a m).1] at h; cases h
    · rw [frozen_out m]; exact o.ext.h a u h
  · by_cases m : ∃ j, j ≠ i ∧ a ∈ Lf j
    · obtain ⟨j, _, m⟩ := m
      rw [(o.fr j a m).2.1] at h; cases h
    · rw [frozen_out m]; exact o.ext.le a u h
/-- .. and is ours again -/
theorem Own.thaw {i : Nat} {p : Addr} {xs : List V} {ds : List D} (o : Own K S1 H1 S H σ env Lf) (e : Ext S0 H0 S1 H1) (h0 : H0 p = none) (h1 : H1 p = some (.lst xs)) (h2 : S1 p = none) (hn : nth env i = some (.sh (.abs (opq p)))) (a : Ats K S xs ds) :
    Own K S0 H0 S H σ (env.set i (some (.ow ds))) (fun j => if j = i then [p] else Lf j) := by
  obtain ⟨v, g1, g2⟩ := o.slot i _ hn
  generalize hL : Lf i = L at g2
  cases g2 with
  | sh g3 =>
  cases g3 with
  | abs g3 =>
  have hv : v = .ref p := g3 S (.refl _)
  subst hv
  have hi : i < env.length := by rw [← o.len]; exact (List.getElem?_eq_some_iff.mp g1).1
  have hp : H p = some (.lst xs) := o.ext.h _ _ h1
  have key := (o.base e).put1 (j := i) (v := .ref p) (t := .ow ds) (L := [p]) (.ow hp a) ⟨by simp, fun b m => by
    rw [List.mem_singleton] at m
    subst m
    refine ⟨fun j m => ?_, h0, (o.ext.dom _ (.lst xs) h1).trans h2, .lst xs, hp⟩
    rw [(o.fr j _ m).1] at h1; cases h1⟩ hi
  have e2 : σ.set i (some (.ref p)) = σ := by
    obtain ⟨hl, e2⟩ := List.getElem?_eq_some_iff.mp g1
    rw [← e2]
    exact List.set_getElem_self hl
  rw [e2] at key
  exact key
def sForLn (i : Nat) (bi : BI) (tg : Tg) (body : DS) : DS := fun De env => ∃ ds, nth env i = some (.ow ds) ∧ bi ((hide env).set i (some (.ow ds))) fun items => ∃ (α : Type) (xs : List α) (f : α → D) (I : (V → Hp → Prop) → List α → List (Option T) → Prop), items = xs.map f ∧ (∀ x, (f x).clean = true) ∧ ∀ P, I P [] (env.set i (some (.sh (.abs P)))) ∧
  (∀ ps x qs env', xs = ps ++ x :: qs → I P ps env' → ∃ env1, tg.put (.sh (f x)) env' = some env1 ∧ body ⟨I P (ps ++ [x]), De.rt, fun e => nth e i = some (.sh (.abs P)) ∧ De.nx (e.set i (some (.ow ds))), I P (ps ++ [x]), De.xc⟩ env1) ∧ ∀ env', I P xs env' → nth env' i = some (.sh (.abs P)) ∧ De.nx (env'.set i (some (.ow ds)))
theorem s_forLn {i : Nat} {bi : BI} {tg : Tg} {tge iter : Expr} {body : List Stmt} (hp : PassesOwn (model X.prog X.w) X.A X.env X.xe) (hc : X.calm = true) (hi : PIb X tge iter bi) (hg : PG X tge (tg.g X.K)) (hb : PSds X body du) (hs : ∀ x, foldedSetIterable iter X.env x = pure x := by intro _; rfl) :
    PSd X (.For tge iter body [] pos) (sForLn i bi tg du) := ps_weak (ps_for hp hc hi hg hb hs) fun D σ H ⟨S0, H0, S, env, Lf, De, o, ⟨ds, hn, hd⟩, n, b, c, r⟩ => by
  obtain ⟨p, ys, g1, g2, g3, g4, g5⟩ := o.owAt hn
  have oi := o.only hn g4
  refine ⟨lent S H (onlyL i p), _, _, oi.lentH, oi.lendE, hd, fun J S1 H1 items e1 io ⟨α, xs, f, I, hx, hcl, hI⟩ => ?_⟩
  subst hx
  have hlen : (xs.map f).length = xs.length := List.length_map ..
  have e2 := oi.back e1
  have o1 := o.grow e2
  have o2 := o1.freeze (i := i) g5 g1
  have ex := o1.frozen_ext (i := i)
  have pin : p ∈ Lf i := by rw [g4]; simp
  have npo : ¬ ∃ j, j ≠ i ∧ p ∈ Lf j := fun ⟨j, z, m⟩ => z (o.dis j i p m pin)
  have fp : frozen i Lf H1 p = some (.lst ys) := by rw [frozen_out npo]; exact e1.h _ _ g2
  have sp : unlent S1 (onlyL i p) p = none := unlent_in (i := i) (by unfold onlyL; simp)
  have h0p : H0 p = none := (o.fr i p pin).1
  have ap : ∀ S3, Same (unlent S1 (onlyL i p)) S3 → Ats X.K S3 ys ds := fun S3 e => (g3.mono e2.s).mono e
  obtain ⟨h0, hstep, hend⟩ := hI (opq p)
  have nx : ∀ S' H' σ' env' Lf', Own X.K (unlent S1 (onlyL i p)) (frozen i Lf H1) S' H' σ' env' Lf' → (nth env' i = some (.sh (.abs (opq p))) ∧ De.nx (env'.set i (some (.ow ds)))) → D.nx σ' H' := fun S' H' σ' env' Lf' o' ⟨k1, k2⟩ =>
    n S' H' σ' _ _ (e2.s.trans o'.ext.s) (o'.thaw ex h0p fp sp k1 (ap _ o'.ext.s)) k2
  refine ⟨fun k m σ' H' => m = xs.length - k ∧ k ≤ xs.length ∧ ∃ S' env' Lf', Own X.K (unlent S1 (onlyL i p)) (frozen i Lf H1) S' H' σ' env' Lf' ∧ I (opq p) (xs.take k) env', ⟨xs.length, by simp, Nat.zero_le _, _, _, _, o2, h0⟩, ?_⟩
  rintro k m σ' H' ⟨rfl, hil, S', env', Lf', o', hIk⟩
  have s1f : Same S1 (frozen i Lf H1) := fun a u h => by
    by_cases m : ∃ j, j ≠ i ∧ a ∈ Lf j
    · obtain ⟨j, hj, m⟩ := m
      obtain ⟨_, f2, zs, f3⟩ := o.fr j a m
      rw [e1.dom a zs f3, lent_out (fun z => by rw [onlyL_in] at z; subst z; exact hj (o.dis j i a m pin)), f2] at h
      cases h
    · rw [frozen_out m]; exact e1.le a u h
  by_cases hlt : k < xs.length
  · refine .inr ⟨io.1 k H' (s1f.trans o'.ext.h) (by omega), fun σ2 H2 => k + 1 ≤ xs.length ∧ ∃ S2 env2 Lf2, Own X.K (unlent S1 (onlyL i p)) (frozen i Lf H1) S2 H2 σ2 env2 Lf2 ∧ I (opq p) (xs.take (k + 1)) env2, fun σ2 H2 h => ⟨xs.length - (k + 1), by omega, rfl, h.1, h.2⟩, fun x H2 y => ?_⟩
    have np : ∀ a, a = p → S' a = none := fun a z => by subst z; exact (o'.ext.dom _ (.lst ys) fp).trans sp
    have sc1 : Same S1 (lent S' H1 (onlyL i p)) := fun a u h => by
      by_cases z : ∃ j, a ∈ onlyL i p j
      · obtain ⟨j, z⟩ := z
        rw [lent_in z]; exact e1.le a u h
      · rw [lent_out z]
        refine o'.ext.s a u ?_
        rw [unlent_out z]; exact h
    have sc2 : Same (lent S' H1 (onlyL i p)) H' := fun a u h => by
      by_cases z : ∃ j, a ∈ onlyL i p j
      · have z2 := onlyL_in.mp z
        obtain ⟨j, z⟩ := z
        rw [lent_in z] at h
        subst z2
        refine o'.ext.h a u ?_
        rw [frozen_out npo]; exact h
      · rw [lent_out z] at h
        exact o'.ext.le a u h
    obtain ⟨d, S2, hd2, e3, a3⟩ := io.2.2 k _ H' x H2 (by omega) sc1 sc2 y
    have hxi : xs[k]? = some xs[k] := by simp [hlt]
    rw [List.getElem?_map, hxi] at hd2
    cases hd2
    have e4 := lent_back (fun j a m => np a (onlyL_in.mp ⟨j, m⟩)) e3
    have a4 : At X.K (unlent S2 (onlyL i p)) x (f xs[k]) := a3.lose (fun a => by
      by_cases z : ∃ j, a ∈ onlyL i p j
      · have z2 := onlyL_in.mp z
        subst z2
        obtain ⟨j, z⟩ := z
        have hp' := o'.ext.h _ _ fp
        refine .inr ⟨.lst ys, (e3.dom a (.lst ys) hp').trans ?_⟩
        rw [lent_in z]
        exact e1.h _ _ g2
      · exact .inl (unlent_out z)) (hcl _)
    have hsp : xs = xs.take k ++ xs[k] :: xs.drop (k + 1) := by rw [List.getElem_cons_drop, List.take_append_drop]
    have htk : xs.take (k + 1) = xs.take k ++ [xs[k]] := by rw [List.take_add_one, hxi] <;> rfl
    obtain ⟨env1, hput, hbody⟩ := hstep _ _ _ env' hsp hIk
    refine own_put (o'.grow e4) (.sh a4) ⟨List.nodup_nil, fun _ m => by cases m⟩ hput fun σ2 Lf2 o3 => ?_
    refine ⟨_, _, _, env1, Lf2, _, o3, hbody, fun S3 H3 σ3 env3 Lf3 _ o4 h3 => ⟨hlt, S3, env3, Lf3, o4, by rw [htk]; exact h3⟩, fun S3 H3 σ3 env3 Lf3 _ o4 h3 => nx _ _ _ _ _ o4 h3, fun S3 H3 σ3 env3 Lf3 _ o4 h3 => ⟨hlt, S3, env3, Lf3, o4, by rw [htk]; exact h3⟩,
      fun v S3 H3 σ3 env3 Lf3 t L o5 r5 p5 q => r.1 v S3 H3 σ3 env3 Lf3 t L (o5.base ex) r5 ⟨p5.1, fun a m => ⟨(p5.2 a m).1, Same.none ex.h (p5.2 a m).2.1, (p5.2 a m).2.2⟩⟩ q, fun S3 H3 σ3 env3 Lf3 cls dx xn e5 o5 => r.2 S3 H3 σ3 env3 Lf3 cls dx xn (e2.s.trans o5.ext.s) (o5.base ex)⟩
  · have e : k = xs.length := by omega
    subst e
    rw [List.take_length] at hIk
    exact .inl ⟨by have := io.2.1 H' (s1f.trans o'.ext.h); rwa [hlen] at this, nx _ _ _ _ _ o' (hend _ hIk)⟩
end
end W

/-! GA: texts over data. -/
namespace W
open PySem L2
section
variable {X : Cx} {K : PySem.W.Frag} {a b e : Expr} {ba bb be : BT} {pos : Pos}
theorem out_strs {S H : Hp} {p : Addr} (e : Same S H) (hp : H p = none) (ys : List Str) : Out K S H (.ref p) (.ow (ys.map .str)) S (upd H p (.lst (ys.map V.str))) := .ow e hp (Ats.of_strs ys)
/-- x.split(sep) -/
def bSplit (ba bb : BT) : BT := fun env Q => ba env fun x => ∃ s : Str, x.d = .str s ∧ bb env fun y => ∃ z : Str, y.d = .str z ∧ (z.length == 0) = false ∧ s.length ≤ 100000 ∧ Q (.ow ((Txt.split s z).map .str))
theorem b_split {apos : Pos} (ha : PB X a ba) (hb : PB X b bb) (hs : starEach [b] X.env = [(false, eval b X.env)] := by rfl) (hbase : attributeBase a "split" X.env (eval a X.env) = eval a X.env := by rfl) (hline : (apos.endLine == pos.line) = true := by rfl) :
    PB X (.Call (.Attribute a "split" apos) [b] [] pos) (bSplit ba bb) := pe_weak (pe_split ha hb hs hbase hline) fun σ H Q ⟨S, env, Qd, hS, hE, hh, hQ⟩ => by
  refine ⟨S, env, _, hS, hE, hh, fun v S1 H1 t O ⟨s, h1, q⟩ => ?_⟩
  obtain ⟨S2, e2, l2, a2⟩ := O.share
  rw [h1] at a2
  cases a2
  refine ⟨⟨s, rfl⟩, S2, env, _, e2.le, hE.mono e2.s, q, fun w S3 H3 u O3 ⟨z, h2, h3, h4, h5⟩ => ?_⟩
  obtain ⟨S4, e4, l4, a4⟩ := O3.share
  rw [h2] at a4
  cases a4
  exact ⟨s, z, rfl, rfl, h3, Nat.le_trans (Nat.add_le_add_right h4 2) (by decide), fun p hp => hQ _ _ _ _ ((out_strs e4.le hp _).from (e2.trans e4)) h5⟩
/-- x.partition(sep) -/
def bPart (ba bb : BT) : BT := fun env Q => ba env fun x => ∃ s : Str, x.d = .str s ∧ bb env fun y => ∃ z : Str, y.d = .str z ∧ (z.length == 0) = false ∧ s.length ≤ 100000 ∧ Q (.sh (.tup [.str (Txt.partition s z).1, .str (Txt.partition s z).2.1, .str (Txt.partition s z).2.2]))
theorem b_part {apos : Pos} (ha : PB X a ba) (hb : PB X b bb) (hs : starEach [b] X.env = [(false, eval b X.env)] := by rfl) (hbase : attributeBase a "partition" X.env (eval a X.env) = eval a X.env := by rfl) (hline : (apos.endLine == pos.line) = true := by rfl) :
    PB X (.Call (.Attribute a "partition" apos) [b] [] pos) (bPart ba bb) := pe_weak (pe_partition ha hb hs hbase hline) fun σ H Q ⟨S, env, Qd, hS, hE, hh, hQ⟩ => by
  refine ⟨S, env, _, hS, hE, hh, fun v S1 H1 t O ⟨s, h1, q⟩ => ?_⟩
  obtain ⟨S2, e2, l2, a2⟩ := O.share
  rw [h1] at a2
  cases a2
  refine ⟨⟨s, rfl⟩, S2, env, _, e2.le, hE.mono e2.s, q, fun w S3 H3 u O3 ⟨z, h2, h3, h4, h5⟩ => ?_⟩
  obtain ⟨S4, e4, l4, a4⟩ := O3.share
  rw [h2] at a4
  cases a4
  exact ⟨s, z, rfl, rfl, h3, Nat.le_trans h4 (by decide), fun p hp => hQ _ _ _ _ ((Out.tup e4.le hp (.cons (.str _) (.cons (.str _) (.cons (.str _) .nil)))).from (e2.trans e4)) h5⟩
/-- sep.join(texts) -/
def bJoin (ba bb : BT) : BT := fun env Q => ba env fun x => ∃ s : Str, x.d = .str s ∧ bb env fun y => ∃ ys : List Str, y.d = .lst (ys.map .str) ∧ (ys.map (·.length)).sum + ys.length * s.length ≤ 16777216 ∧ Q (.sh (.str (Txt.join s ys)))
theorem b_join {apos : Pos} (ha : PB X a ba) (hb : PB X b bb) (hs : starEach [b] X.env = [(false, eval b X.env)] := by rfl) (hbase : attributeBase a "join" X.env (eval a X.env) = eval a X.env := by rfl) (hline : (apos.endLine == pos.line) = true := by rfl) :
    PB X (.Call (.Attribute a "join" apos) [b] [] pos) (bJoin ba bb) := pe_weak (pe_join ha hb hs hbase hline) fun σ H Q ⟨S, env, Qd, hS, hE, hh, hQ⟩ => by
  refine ⟨S, env, _, hS, hE, hh, fun v S1 H1 t O ⟨s, h1, q⟩ => ?_⟩
  obtain ⟨S2, e2, l2, a2⟩ := O.share
  rw [h1] at a2
  cases a2
  refine ⟨⟨s, rfl⟩, S2, env, _, e2.le, hE.mono e2.s, q, fun w S3 H3 u O3 ⟨ys, h2, h3, h4⟩ => ?_⟩
  obtain ⟨S4, e4, l4, a4⟩ := O3.share
  rw [h2] at a4
  cases a4 with
  | @lst p xs _ hp hx =>
  have ex := hx.strs_
  subst ex
  exact ⟨s, p, ys, rfl, rfl, .inl (.inl (.inl (e4.le _ _ hp))), h3, hQ _ _ _ _ ((Out.sh e4.le (.str _)).from (e2.trans e4)) h4⟩
/-- str(i) -/
def fStrI : SpD := fun ds Q => ∃ i : Int, ds = [.int i] ∧ i.natAbs.log2 < 1920 ∧ Q (.sh (.str (toString i)))
theorem c_strI : BlD X (.type "str") fStrI := ⟨_, call_str_int, fun S H vs ds Q Qd hS h hf hQ => by
  obtain ⟨i, rfl, hz, hf⟩ := hf
  obtain ⟨v, rfl, a⟩ := ats1 h
  cases a
  exact ⟨i, rfl, hz, hQ _ _ _ _ (.sh hS (.str _)) hf⟩⟩
/-- int(text) -/
def fIntS : SpD := fun ds Q => ∃ (s : Str) (n : Int), ds = [.str s] ∧ PySem.intText? s = some n ∧ s.length ≤ 640 ∧ Q (.sh (.int n))
theorem c_intS : BlD X (.type "int") fIntS := ⟨_, call_int_str, fun S H vs ds Q Qd hS h hf hQ => by
  obtain ⟨s, n, rfl, hn, hz, hf⟩ := hf
  obtain ⟨v, rfl, a⟩ := ats1 h
  cases a
  exact ⟨s, n, rfl, hn, hz, hQ _ _ _ _ (.sh hS (.int _)) hf⟩⟩
/-- one sign in a text -/
def fInS (neg : Bool) : F2 := fun d e Q => ∃ (c : Nat) (z : Str), d = .str ⟨#[c]⟩ ∧ e = .str z ∧ Q (.sh (.bl (if neg then !decide (c ∈ z.cps.toList) else decide (c ∈ z.cps.toList))))
theorem o_inS : OpD X (compareOp .In) (fInS false) := ⟨_, op_in_sign, fun S H v w d e Q Qd hS h1 h2 hf hQ => by
  obtain ⟨c, z, rfl, rfl, hq⟩ := hf
  cases h1
  cases h2
  exact ⟨c, z, rfl, rfl, hQ _ S H _ (.sh hS (.bl _)) hq⟩⟩
theorem o_ninS : OpD X (compareOp .NotIn) (fInS true) := ⟨_, op_notIn_sign, fun S H v w d e Q Qd hS h1 h2 hf hQ => by
  obtain ⟨c, z, rfl, rfl, hq⟩ := hf
  cases h1
  cases h2
  exact ⟨c, z, rfl, rfl, hQ _ S H _ (.sh hS (.bl _)) hq⟩⟩
end
end W

/-! GB: a bench's attributes and methods. -/
namespace W
open PySem L2
/-- what the head tells of the class -/
structure BnC (K : PySem.W.Frag) (mg : Str → Option Value) : Prop where
  gl : mg "Bench" = some (.ref (He.ga K "Bench"))
  cls : Cls K (He.ga K "Bench")
  lines : NoAttr K (He.ga K "Bench") "lines"
  laid : NoAttr K (He.ga K "Bench") "laid"
  past : NoAttr K (He.ga K "Bench") "past"
theorem bnF_lines {n : Int} {l p : Addr} : (bnF n l p).lookup ("lines" : Str) = some (.int n) := by rfl
theorem bnF_laid {n : Int} {l p : Addr} : (bnF n l p).lookup ("laid" : Str) = some (.ref l) := by rfl
theorem bnF_past {n : Int} {l p : Addr} : (bnF n l p).lookup ("past" : Str) = some (.ref p) := by rfl
def D.bnS (d : D) (k : Int → List D → List D → Prop) : Prop := match d with
  | .bn n l p => k n l p
  | _ => False
theorem bnS_bn {n : Int} {l p : List D} {k : Int → List D → List D → Prop} : (D.bn n l p).bnS k = k n l p := rfl
theorem bnS_of {d : D} {k : Int → List D → List D → Prop} (h : d.bnS k) : ∃ n l p, d = .bn n l p ∧ k n l p := by
  unfold D.bnS at h
  split at h
  · exact ⟨_, _, _, rfl, h⟩
  · exact h.elim
section
variable {X : Cx} {K : PySem.W.Frag} {a b e o : Expr} {es : List Expr} {ba bb be : BT} {bs : BA} {pos apos : Pos} {S0 H0 S H S' H' : Hp} {σ : L2.St} {env : List (Option T)} {Lf : Nat → List Addr}
def bLines (b : BT) : BT := fun env Q => b env fun t => t.d.bnS fun n _ _ => Q (.sh (.int n))
def bLaid (b : BT) : BT := fun env Q => b env fun t => t.d.bnS fun _ l _ => Q (.sh (.lst l))
def bPast (b : BT) : BT := fun env Q => b env fun t => t.d.bnS fun _ _ p => Q (.sh (.lst p))
theorem b_lines (B : BnC X.K X.mg) (he : PB X e be) (hb : attributeBase e "lines" X.env (eval e X.env) = eval e X.env := by rfl) : PB X (.Attribute e "lines" pos) (bLines be) := pe_weak (pe_fld he hb) fun σ H Q ⟨S, env, Qd, hS, hE, hh, hQ⟩ => by
  refine ⟨S, env, _, hS, hE, hh, fun v S1 H1 t O q => ?_⟩
  obtain ⟨n, l, p, hd, q⟩ := bnS_of q
  obtain ⟨S2, e2, l2, a2⟩ := O.share
  rw [hd] at a2
  cases a2 with
  | bn h1 h2 h3 h4 h5 => exact ⟨_, _, _, _, _, rfl, e2.le _ _ h1, B.cls, B.lines, bnF_lines, hQ _ _ _ _ ((Out.sh e2.le (.int _)).from e2) q⟩
theorem b_laid (B : BnC X.K X.mg) (he : PB X e be) (hb : attributeBase e "laid" X.env (eval e X.env) = eval e X.env := by rfl) : PB X (.Attribute e "laid" pos) (bLaid be) := pe_weak (pe_fld he hb) fun σ H Q ⟨S, env, Qd, hS, hE, hh, hQ⟩ => by
  refine ⟨S, env, _, hS, hE, hh, fun v S1 H1 t O q => ?_⟩
  obtain ⟨n, l, p, hd, q⟩ := bnS_of q
  obtain ⟨S2, e2, l2, a2⟩ := O.share
  rw [hd] at a2
  cases a2 with
  | bn h1 h2 h3 h4 h5 => exact ⟨_, _, _, _, _, rfl, e2.le _ _ h1, B.cls, B.laid, bnF_laid, hQ _ _ _ _ ((Out.sh e2.le (.lst h2 h4)).from e2) q⟩
theorem b_past (B : BnC X.K X.mg) (he : PB X e be) (hb : attributeBase e "past" X.env (eval e X.env) = eval e X.env := by rfl) : PB X (.Attribute e "past" pos) (bPast be) := pe_weak (pe_fld he hb) fun σ H Q ⟨S, env, Qd, hS, hE, hh, hQ⟩ => by
  refine ⟨S, env, _, hS, hE, hh, fun v S1 H1 t O q => ?_⟩
  obtain ⟨n, l, p, hd, q⟩ := bnS_of q
  obtain ⟨S2, e2, l2, a2⟩ := O.share
  rw [hd] at a2
  cases a2 with
  | bn h1 h2 h3 h4 h5 => exact ⟨_, _, _, _, _, rfl, e2.le _ _ h1, B.cls, B.past, bnF_past, hQ _ _ _ _ ((Out.sh e2.le (.lst h3 h5)).from e2) q⟩
/-! ### methods that change nothing -/
structure MethD (P : Program) (w : PySem.World) (K : PySem.W.Frag) (mg : Str → Option Value) (base : Heap) (k : Nat) (m : Str) (sp : SpD) : Prop where
  ex : ∃ (fd : FuncData) (ps : List Str), FnOk P w K mg base CX0 k (He.ma K (He.ga K "Bench") m) fd ps (spOf K sp) ∧ Meth K (He.ga K "Bench") m (He.ma K (He.ga K "Bench") m) ∧ Binds K fd ps []
theorem MethD.mono {P : Program} {w : PySem.World} {K : PySem.W.Frag} {mg : Str → Option Value} {base : Heap} {j k : Nat} {m : Str} {sp : SpD} (c : MethD P w K mg base j m sp) (h : j ≤ k) : MethD P w K mg base k m sp := by
  obtain ⟨fd, ps, F, r⟩ := c.ex
  exact ⟨fd, ps, F.mono h, r⟩
def D.isBn : D → Bool
  | .bn _ _ _ => true
  | _ => false
def bMeth0 (sp : SpD) (b : BT) : BT := fun env Q => b env fun t => t.d.isBn = true ∧ sp [t.d] Q
theorem bnF_no {n : Int} {l p : Addr} {m : Str} (h1 : (m == ("lines" : Str)) = false) (h2 : (m == ("laid" : Str)) = false) (h3 : (m == ("past" : Str)) = false) : (bnF n l p).lookup m = none := by
  have e : bnF n l p = [(("lines" : Str), V.int n), (("laid" : Str), V.ref l), (("past" : Str), V.ref p)] := by rfl
  rw [e]
  simp only [List.lookup, h1, h2, h3]
theorem b_meth0 {k : Nat} {m : Str} {sp : SpD} {pl : Sem Bool} (B : BnC X.K X.mg) (c : MethD X.prog X.w X.K X.mg X.base k m sp) (hr : Room k X.A) (ho : PB X o be)
    (h1 : (m == ("lines" : Str)) = false := by decide) (h2 : (m == ("laid" : Str)) = false := by decide) (h3 : (m == ("past" : Str)) = false := by decide)
    (ht : eval (.Call (.Attribute o m apos) [] [] pos) X.env = (do
      let ov ← eval o X.env
      standAt apos.atName
      let (f, first) ← holding [ov] (getMethod ov m pl)
      callWith pos f first (backTo pos (starEach [] X.env)) (backToKw pos (keywordEach [] X.env))) := by rfl) :
    PB X (.Call (.Attribute o m apos) [] [] pos) (bMeth0 sp be) := by
  obtain ⟨fd, ps, F, M, b⟩ := c.ex
  refine pe_weak (pe_meth0 (pl := pl) ho B.cls M F hr b .nil pass0 ht) fun σ H Q ⟨S, env, Qd, hS, hE, hh, hQ⟩ => ?_
  refine ⟨S, env, _, hS, hE, hh, fun v S1 H1 t O ⟨hb, q⟩ => ?_⟩
  obtain ⟨S2, e2, l2, a2⟩ := O.share
  generalize hd : t.d = d at a2 q hb
  cases a2 with
  | bn g1 g2 g3 g4 g5 =>
    refine ⟨_, _, _, rfl, e2.le _ _ g1, bnF_no h1 h2 h3, ?_⟩
    exact ⟨S2, _, Qd, e2.le, .cons (.bn g1 g2 g3 g4 g5) .nil, q, fun v S' H' t O' q' => hQ v S' H' t (O'.from e2) q'⟩
  | _ => cases hb
end
end W

/-! GC: a bench that changes. -/
namespace W
open PySem L2
def bnAt (o : Option T) (k : Addr → Int → List D → List D → Prop) : Prop := match o with
  | some (.bn a n l p) => k a n l p
  | _ => False
theorem bnAt_bn {a : Addr} {n : Int} {l p : List D} {k : Addr → Int → List D → List D → Prop} : bnAt (some (.bn a n l p)) k = k a n l p := rfl
theorem bnAt_of {o : Option T} {k : Addr → Int → List D → List D → Prop} (h : bnAt o k) : ∃ a n l p, o = some (.bn a n l p) ∧ k a n l p := by
  unfold bnAt at h
  split at h
  · exact ⟨_, _, _, _, rfl, h⟩
  · exact h.elim
section
variable {X : Cx} {K : PySem.W.Frag} {a b e o : Expr} {es : List Expr} {ba bb be : BT} {bs : BA} {pos : Pos} {S0 H0 S H S' H' : Hp} {σ : L2.St} {env : List (Option T)} {Lf : Nat → List Addr}
theorem Own.bnAt {i : Nat} {a : Addr} {n : Int} {laid past : List D} (o : Own K S0 H0 S H σ env Lf) (h : nth env i = some (.bn a n laid past)) : ∃ dx l p xs ys, σ[i]? = some (some (.ref a)) ∧ H a = some (.ins (He.ga K "Bench") dx (bnF n l p)) ∧ H dx = some (.own a) ∧ H l = some (.lst xs) ∧ H p = some (.lst ys) ∧
    Ats K S xs laid ∧ Ats K S ys past ∧ Lf i = [a, dx, l, p] ∧ i < env.length ∧ a ≠ dx ∧ a ≠ l ∧ a ≠ p ∧ dx ≠ l ∧ dx ≠ p ∧ l ≠ p := by
  obtain ⟨v, h1, h2⟩ := o.slot i _ h
  have nd := o.nod i
  generalize hL : Lf i = L at h2 nd
  cases h2 with
  | @bn _ dx l p _ xs ys _ _ g1 g2 g3 g4 g5 g6 =>
    refine ⟨dx, l, p, xs, ys, h1, g1, g2, g3, g4, g5, g6, rfl, by rw [← o.len]; exact (List.getElem?_eq_some_iff.mp h1).1, ?_⟩
    simp only [List.nodup_cons, List.mem_cons, List.not_mem_nil, or_false, not_or] at nd
    exact ⟨nd.1.1, nd.1.2.1, nd.1.2.2, nd.2.1.1, nd.2.1.2, nd.2.2.1⟩
/-- x.laid.append(e) -/
def sLaidApp (i : Nat) (be : BT) : DS := fun De env => bnAt (nth env i) fun a n laid past => laid.length < 100000 ∧ be (hide env) fun t => De.nx (env.set i (some (.bn a n (laid ++ [t.d]) past)))
theorem s_laidApp (i : Nat) {x : Str} {npos fpos apos cpos : Pos} (B : BnC X.K X.mg) (he : PB X e be) (hN : X.N[i]? = some x := by rfl) (hv : Vis X.env.scope x := by first | exact Or.inl rfl | exact Or.inr (Or.inl rfl) | exact Or.inr (Or.inr rfl)) (hd : (x == ("__debug__" : Str)) = false := by decide)
    (hcd : (x == ("__classdict__" : Str)) = false := by decide) (hb1 : attributeBase (.Name x npos) "laid" X.env (eval (.Name x npos) X.env) = eval (.Name x npos) X.env := by rfl)
    (hbase : attributeBase (.Attribute (.Name x npos) "laid" fpos) "append" X.env (eval (.Attribute (.Name x npos) "laid" fpos) X.env) = eval (.Attribute (.Name x npos) "laid" fpos) X.env := by rfl)
    (hfew : ((backTo cpos (starEach [e] X.env)).all (fun x => !x.1) && (backToKw cpos (keywordEach [] X.env)).all (fun x => x.1.isSome) && decide (([e] : List Expr).length + ([] : List Keyword).length + (if ([] : List Keyword).isEmpty then 0 else 1) < 30)) = true := by rfl)
    (hline : (apos.endLine == cpos.line) = true := by rfl) (hs : starEach [e] X.env = (false, eval e X.env) :: starEach [] X.env := by rfl) (hplain : (backTo cpos (starEach [] X.env)).any (·.1) = false := by rfl) :
    PSd X (.Expr (.Call (.Attribute (.Attribute (.Name x npos) "laid" fpos) "append" apos) [e] [] cpos) pos) (sLaidApp i be) :=
  ps_weak (ps_expr (pe_bm PySem.F.plainAttrs_list PySem.F.slot_list_append PySem.F.type_list_append mt_append (pe_fld (pe_var hN hv hd hcd) hb1) (pa_cons he pa_nil hs) hbase hfew hline hs hplain) rfl) fun D σ H ⟨S0, H0, S, env, Lf, De, o, hd, n, bb, c, r⟩ => by
  obtain ⟨a, m, laid, past, hi, hl, hd⟩ := bnAt_of hd
  obtain ⟨dx, l, p, xs, ys, h1, g1, g2, g3, g4, g5, g6, hL, hlen, n1, n2, n3, n4, n5, n6⟩ := o.bnAt hi
  refine ⟨.ref a, h1, a, _, dx, _, .ref l, rfl, g1, B.cls, B.laid, bnF_laid, .inl ⟨rfl, xs, .inl (.inl g3)⟩, S, hide env, _, o.ext.le, o.hid, hd, fun v S' H' t O q => ?_⟩
  obtain ⟨ee, L2, rr, ff⟩ := O
  obtain ⟨o2, a2, e2⟩ := (o.grow ee).shareP rr (o.pend rr ff)
  refine ⟨l, xs, v, rfl, rfl, ee.h _ _ g3, by rw [g5.length]; exact lt_line hl, ?_⟩
  refine n _ _ σ _ Lf (ee.s.trans e2) (o2.writeAt (i := i) (q := l) (ys := xs ++ [v]) (t := .bn a m (laid ++ [t.d]) past) (v := .ref a) hlen h1 (by rw [hL]; simp) ?_) q
  rw [hL]
  exact .bn ((upd_ne n2).trans (ee.h _ _ g1)) ((upd_ne n4).trans (ee.h _ _ g2)) upd_same ((upd_ne (Ne.symm n6)).trans (ee.h _ _ g4)) ((g5.mono (ee.s.trans e2)).append (.cons a2 .nil)) (g6.mono (ee.s.trans e2))
/-- x.past.append(e) -/
def sPastApp (i : Nat) (be : BT) : DS := fun De env => bnAt (nth env i) fun a n laid past => past.length < 100000 ∧ be (hide env) fun t => De.nx (env.set i (some (.bn a n laid (past ++ [t.d]))))
theorem s_pastApp (i : Nat) {x : Str} {npos fpos apos cpos : Pos} (B : BnC X.K X.mg) (he : PB X e be) (hN : X.N[i]? = some x := by rfl) (hv : Vis X.env.scope x := by first | exact Or.inl rfl | exact Or.inr (Or.inl rfl) | exact Or.inr (Or.inr rfl)) (hd : (x == ("__debug__" : Str)) = false := by decide)
    (hcd : (x == ("__classdict__" : Str)) = false := by decide) (hb1 : attributeBase (.Name x npos) "past" X.env (eval (.Name x npos) X.env) = eval (.Name x npos) X.env := by rfl)
    (hbase : attributeBase (.Attribute (.Name x npos) "past" fpos) "append" X.env (eval (.Attribute (.Name x npos) "past" fpos) X.env) = eval (.Attribute (.Name x npos) "past" fpos) X.env := by rfl)
    (hfew : ((backTo cpos (starEach [e] X.env)).all (fun x => !x.1) && (backToKw cpos (keywordEach [] X.env)).all (fun x => x.1.isSome) && decide (([e] : List Expr).length + ([] : List Keyword).length + (if ([] : List Keyword).isEmpty then 0 else 1) < 30)) = true := by rfl)
    (hline : (apos.endLine == cpos.line) = true := by rfl) (hs : starEach [e] X.env = (false, eval e X.env) :: starEach [] X.env := by rfl) (hplain : (backTo cpos (starEach [] X.env)).any (·.1) = false := by rfl) :
    PSd X (.Expr (.Call (.Attribute (.Attribute (.Name x npos) "past" fpos) "append" apos) [e] [] cpos) pos) (sPastApp i be) :=
  ps_weak (ps_expr (pe_bm PySem.F.plainAttrs_list PySem.F.slot_list_append PySem.F.type_list_append mt_append (pe_fld (pe_var hN hv hd hcd) hb1) (pa_cons he pa_nil hs) hbase hfew hline hs hplain) rfl) fun D σ H ⟨S0, H0, S, env, Lf, De, o, hd, n, bb, c, r⟩ => by
  obtain ⟨a, m, laid, past, hi, hl, hd⟩ := bnAt_of hd
  obtain ⟨dx, l, p, xs, ys, h1, g1, g2, g3, g4, g5, g6, hL, hlen, n1, n2, n3, n4, n5, n6⟩ := o.bnAt hi
  refine ⟨.ref a, h1, a, _, dx, _, .ref p, rfl, g1, B.cls, B.past, bnF_past, .inl ⟨rfl, ys, .inl (.inl g4)⟩, S, hide env, _, o.ext.le, o.hid, hd, fun v S' H' t O q => ?_⟩
  obtain ⟨ee, L2, rr, ff⟩ := O
  obtain ⟨o2, a2, e2⟩ := (o.grow ee).shareP rr (o.pend rr ff)
  refine ⟨p, ys, v, rfl, rfl, ee.h _ _ g4, by rw [g6.length]; exact lt_line hl, ?_⟩
  refine n _ _ σ _ Lf (ee.s.trans e2) (o2.writeAt (i := i) (q := p) (ys := ys ++ [v]) (t := .bn a m laid (past ++ [t.d])) (v := .ref a) hlen h1 (by rw [hL]; simp) ?_) q
  rw [hL]
  exact .bn ((upd_ne n3).trans (ee.h _ _ g1)) ((upd_ne n5).trans (ee.h _ _ g2)) ((upd_ne n6).trans (ee.h _ _ g3)) upd_same (g5.mono (ee.s.trans e2)) ((g6.mono (ee.s.trans e2)).append (.cons a2 .nil))
end
/-! ### methods that change the bench -/
/-- lines, laid, past, arguments; what is told, laid and past behind -/
abbrev MSp := Int → List D → List D → List D → (D → List D → List D → Prop) → Prop
open Classical in
noncomputable def offH (L : List Addr) (H : Hp) : Hp := fun a => if a ∈ L then none else H a
theorem offH_in {L : List Addr} {H : Hp} {a : Addr} (h : a ∈ L) : offH L H a = none := by unfold offH; exact if_pos h
theorem offH_out {L : List Addr} {H : Hp} {a : Addr} (h : a ∉ L) : offH L H a = H a := by unfold offH; exact if_neg h
theorem offH_le {L : List Addr} {H : Hp} : Same (offH L H) H := fun a u h => by
  by_cases m : a ∈ L
  · rw [offH_in m] at h; cases h
  · rw [offH_out m] at h; exact h
/-- where a bench stands behind a call -/
def BnEnd (K : PySem.W.Frag) (S H : Hp) (a : Addr) (n : Int) (laid past : List D) (L : List Addr) (B : Hp) : Prop := Res K S H (.ref a) (.bn a n laid past) L ∧ L.Nodup ∧ ∀ x ∈ L, B x = none ∧ S x = none
def spMOf (K : PySem.W.Frag) (sp : MSp) : Sp := fun vs H Q _ => ∃ (S : Hp) (a : Addr) (ws : List V) (n : Int) (laid past : List D) (L : List Addr) (ds : List D) (Qd : D → List D → List D → Prop), vs = .ref a :: ws ∧ Same S H ∧ Res K S H (.ref a) (.bn a n laid past) L ∧ L.Nodup ∧ (∀ x ∈ L, S x = none) ∧ Ats K S ws ds ∧ sp n laid past ds Qd ∧
  ∀ v d S' H' laid' past' L', Ext S (offH L H) S' H' → At K S' v d → BnEnd K S' H' a n laid' past' L' (offH L H) → Qd d laid' past' → Q v H'
structure MethM (P : Program) (w : PySem.World) (K : PySem.W.Frag) (mg : Str → Option Value) (base : Heap) (k : Nat) (m : Str) (sp : MSp) : Prop where
  ex : ∃ (fd : FuncData) (ps : List Str), FnOk P w K mg base CX0 k (He.ma K (He.ga K "Bench") m) fd ps (spMOf K sp) ∧ Meth K (He.ga K "Bench") m (He.ma K (He.ga K "Bench") m) ∧ Binds K fd ps []
theorem MethM.mono {P : Program} {w : PySem.World} {K : PySem.W.Frag} {mg : Str → Option Value} {base : Heap} {j k : Nat} {m : Str} {sp : MSp} (c : MethM P w K mg base j m sp) (h : j ≤ k) : MethM P w K mg base k m sp := by
  obtain ⟨fd, ps, F, r⟩ := c.ex
  exact ⟨fd, ps, F.mono h, r⟩
section
variable {X : Cx} {K : PySem.W.Frag} {a b e o : Expr} {es : List Expr} {ba bb be : BT} {bs : BA} {pos apos : Pos} {S0 H0 S H S' H' : Hp} {σ : L2.St} {env : List (Option T)} {Lf : Nat → List Addr}
/-- a bench's slot behind a call -/
theorem Own.rebn {i : Nat} {a : Addr} {n : Int} {laid past laid' past' : List D} {L' : List Addr} (o : Own K S0 H0 S H σ env Lf) (h : nth env i = some (.bn a n laid past)) (e : Ext S (offH (Lf i) H) S' H') (r : BnEnd K S' H' a n laid' past' L' (offH (Lf i) H)) :
    Own K S0 H0 S' H' σ (env.set i (some (.bn a n laid' past'))) (fun j => if j = i then L' else Lf j) ∧ Keep Lf (fun j => if j = i then L' else Lf j) [] S H S' H' := by
  obtain ⟨dx, l, p, xs, ys, h1, g1, g2, g3, g4, g5, g6, hL, hlen, _⟩ := o.bnAt h
  obtain ⟨r1, r2, r3⟩ := r
  have own_no : ∀ j x, x ∈ Lf j → j ≠ i → offH (Lf i) H x = H x := fun j x m z => offH_out fun m2 => z (o.dis j i x m m2)
  have out : ∀ x, x ∈ L' → ∀ j, j ≠ i → x ∉ Lf j := fun x m j z m2 => by
    obtain ⟨_, _, u, q⟩ := o.fr j x m2
    have := (r3 x m).1
    rw [own_no j x m2 z, q] at this
    cases this
  refine ⟨⟨⟨o.ext.s.trans e.s, fun x u q => e.h x u ?_, e.le, fun x u q => ?_⟩, by rw [List.length_set]; exact o.len, fun j t ht => ?_, fun j => ?_, fun j k x m1 m2 => ?_, fun j x m => ?_⟩, fun x u q no => ?_⟩
  · by_cases m : x ∈ Lf i
    · rw [(o.fr i x m).1] at q; cases q
    · rw [offH_out m]; exact o.ext.h x u q
  · by_cases m : x ∈ Lf i
    · rw [(o.fr i x m).1] at q; cases q
    · exact (e.dom x u (by rw [offH_out m]; exact o.ext.h x _ q)).trans (o.ext.dom x u q)
  · rw [nth_set] at ht
    by_cases z : j = i
    · subst z
      rw [if_pos ⟨rfl, hlen⟩] at ht
      cases ht
      rw [if_pos rfl]
      exact ⟨_, h1, r1⟩
    · rw [if_neg (fun w => z w.1)] at ht
      obtain ⟨w, k1, k2⟩ := o.slot j t ht
      rw [if_neg z]
      refine ⟨w, k1, k2.mono e.s fun x m => ?_⟩
      obtain ⟨_, _, u, q⟩ := o.fr j x m
      rw [q]
      exact e.h x _ (by rw [own_no j x m z]; exact q)
  · show (if j = i then L' else Lf j).Nodup
    split
    · exact r2
    · exact o.nod j
  · have m1 : x ∈ if j = i then L' else Lf j := m1
    have m2 : x ∈ if k = i then L' else Lf k := m2
    split at m1 <;> split at m2
    · rename_i z1 z2; rw [z1, z2]
    · rename_i z1 z2; exact (out x m1 k z2 m2).elim
    · rename_i z1 z2; exact (out x m2 j z1 m1).elim
    · exact o.dis j k x m1 m2
  · have m : x ∈ if j = i then L' else Lf j := m
    split at m
    · obtain ⟨q1, q2⟩ := r3 x m
      refine ⟨?_, q2, Res.lst r1 x m⟩
      by_cases m2 : x ∈ Lf i
      · exact (o.fr i x m2).1
      · rw [offH_out m2] at q1
        exact Same.none o.ext.h q1
    · rename_i z
      obtain ⟨q1, q2, u, q3⟩ := o.fr j x m
      have q4 := own_no j x m z
      exact ⟨q1, (e.dom x _ (q4.trans q3)).trans q2, u, e.h x _ (q4.trans q3)⟩
  · have q1 : offH (Lf i) H x = some u.ho := by rw [offH_out (no i)]; exact q
    refine ⟨e.h x _ q1, e.dom x u q1, fun m => (by cases m), fun j m => ?_⟩
    have m : x ∈ if j = i then L' else Lf j := m
    split at m
    · have := (r3 x m).1
      rw [q1] at this
      cases this
    · exact no j m
/-- x.m(e, ..), x a bench of ours -/
def mMeth (i : Nat) (sp : MSp) (bs : BA) : BM := fun env Q => bnAt (nth env i) fun a n laid past => bs (hide env) fun ts => sp n laid past (T.ds ts) fun d laid' past' => Q (.sh d) (env.set i (some (.bn a n laid' past')))
theorem m_meth {k : Nat} {m x : Str} {sp : MSp} {npos : Pos} {pl : Sem Bool} (i : Nat) (B : BnC X.K X.mg) (c : MethM X.prog X.w X.K X.mg X.base k m sp) (hr : Room k X.A) (ha : PAb X (a :: es) bs)
    (hN : X.N[i]? = some x := by rfl) (hv : Vis X.env.scope x := by first | exact Or.inl rfl | exact Or.inr (Or.inl rfl) | exact Or.inr (Or.inr rfl)) (hd : (x == ("__debug__" : Str)) = false := by decide) (hcd : (x == ("__classdict__" : Str)) = false := by decide)
    (h1 : (m == ("lines" : Str)) = false := by decide) (h2 : (m == ("laid" : Str)) = false := by decide) (h3 : (m == ("past" : Str)) = false := by decide)
    (hst : starEach (a :: es) X.env = (false, eval a X.env) :: starEach es X.env := by rfl) (hpl : (backTo pos (starEach es X.env)).any (·.1) = false := by rfl)
    (ht : eval (.Call (.Attribute (.Name x npos) m apos) (a :: es) [] pos) X.env = (do
      let ov ← eval (.Name x npos) X.env
      standAt apos.atName
      let (f, first) ← holding [ov] (getMethod ov m pl)
      callWith pos f first (backTo pos (starEach (a :: es) X.env)) (backToKw pos (keywordEach [] X.env))) := by rfl) :
    PM X (.Call (.Attribute (.Name x npos) m apos) (a :: es) [] pos) (mMeth i sp bs) := by
  obtain ⟨fd, ps, F, M, b⟩ := c.ex
  refine pe_weak (pe_meth (pl := pl) (pe_var hN hv hd hcd) B.cls M F hr b .nil pass0 ha hst hpl ht) fun σ H Q ⟨S0, H0, S, env, Lf, Qd, o, hb, hQ⟩ => ?_
  obtain ⟨a, n, laid, past, hi, hb⟩ := bnAt_of hb
  obtain ⟨dx, l, p, xs, ys, g0, g1, g2, g3, g4, g5, g6, hL, hlen, _⟩ := o.bnAt hi
  refine ⟨.ref a, g0, a, dx, _, rfl, g1, bnF_no h1 h2 h3, S, hide env, _, o.ext.le, o.hid, hb, fun vs S1 H1 ts O q => ?_⟩
  obtain ⟨S2, e2, l2, a2⟩ := O.share
  have o2 := o.grow e2
  obtain ⟨v, k1, k2⟩ := o2.slot i _ hi
  rw [g0] at k1
  cases k1
  rw [List.append_nil]
  refine ⟨S2, a, vs, n, laid, past, Lf i, _, _, rfl, e2.le, k2, o.nod i, fun x m => (o2.fr i x m).2.1, a2, q, fun v d S' H' laid' past' L' e r bn q' => ?_⟩
  obtain ⟨o3, kp⟩ := o2.rebn hi e bn
  refine hQ v S' H' _ [] _ _ (e2.s.trans e.s) o3 (.sh r) ⟨List.nodup_nil, fun _ m => by cases m⟩ (fun x u q no => ?_) q'
  obtain ⟨k1, k2, k3, k4⟩ := kp x u (e2.h x _ q) no
  exact ⟨k1, k2.trans (e2.dom x u q), k3, k4⟩
end
abbrev endsM (a : Addr) (n : Int) (Q : D → List D → List D → Prop) : DEnds := ⟨fun env => bnAt (nth env 0) fun b m l p => b = a ∧ m = n ∧ Q .non l p, fun t env => ∃ d, t = .sh d ∧ bnAt (nth env 0) fun b m l p => b = a ∧ m = n ∧ Q d l p, fun _ => False, fun _ => False, fun _ _ => False⟩
theorem own_startM {K : PySem.W.Frag} {S H : Hp} {N : List Str} {ws : List V} {ds : List D} {a : Addr} {n : Int} {laid past : List D} {L : List Addr} (e : Same S H) (r : Res K S H (.ref a) (.bn a n laid past) L) (nd : L.Nodup) (hS : ∀ x ∈ L, S x = none) (as : Ats K S ws ds) (hN : 1 ≤ N.length) :
    Own K S (offH L H) S H (L2.start N (.ref a :: ws)) (some (.bn a n laid past) :: env0 (N.length - 1) ds) (fun j => if j = 0 then L else []) := by
  have h0 := own_start (N := N.tail) e as
  have eN : N.tail.length = N.length - 1 := by rw [List.length_tail]
  rw [eN] at h0
  have eS : L2.start N (.ref a :: ws) = some (.ref a) :: L2.start N.tail ws := by
    unfold L2.start
    rw [eN, List.map_cons, List.length_cons, List.cons_append, show N.length - (ws.length + 1) = N.length - 1 - ws.length by omega]
  rw [eS]
  refine ⟨⟨.refl _, offH_le, e, fun _ _ _ => rfl⟩, by rw [List.length_cons, List.length_cons, h0.len], fun i t h => ?_, fun i => ?_, fun i j x m1 m2 => ?_, fun i x m => ?_⟩
  · cases i with
    | zero =>
      cases h
      exact ⟨_, rfl, r⟩
    | succ i =>
      obtain ⟨v, h1, h2⟩ := h0.slot i t h
      exact ⟨v, by simpa using h1, h2⟩
  · show (if i = 0 then L else []).Nodup
    split
    · exact nd
    · exact List.nodup_nil
  · have m1 : x ∈ if i = 0 then L else [] := m1
    have m2 : x ∈ if j = 0 then L else [] := m2
    split at m1 <;> split at m2
    · rename_i z1 z2; rw [z1, z2]
    · cases m2
    · cases m1
    · cases m1
  · have m : x ∈ if i = 0 then L else [] := m
    split at m
    · exact ⟨offH_in m, hS x m, Res.lst r x m⟩
    · cases m
theorem meth_mk {P : Program} {w : PySem.World} {K : PySem.W.Frag} {mg : Str → Option Value} {base : Heap} {x q : Str} {params : Arguments} {body : List Stmt} {scope : Scope} {fd : FuncData} {N ps : List Str} {k : Nat} {sp : MSp} {dt : DS}
    (F : FunD K x q params body scope [] [] (He.ma K (He.ga K "Bench") x) fd) (M : Meth K (He.ga K "Bench") x (He.ma K (He.ga K "Bench") x)) (b : Binds K fd ps []) (S : FnScope N ps scope) (hN : 1 ≤ N.length) (len : ∀ n l p ds Q, sp n l p ds Q → ds.length + 1 = ps.length)
    (hbody : ∀ (cdv : Value) (A : Around) (outer : List PySem.Env) (s : Shared) (H : Hp) (E : XK), Room k (A.deeper (PyProof.Rows.envOfC q scope s.heap.objs.size (He.ma K (He.ga K "Bench") x) cdv)) → PSds (cxOf CX0 P w K mg base N q scope (He.ma K (He.ga K "Bench") x) cdv A outer s H E).nox body dt)
    (hd : ∀ a n l p ds Q, sp n l p ds Q → dt (endsM a n Q) (some (.bn a n l p) :: env0 (N.length - 1) ds)) : MethM P w K mg base (k + 1) x sp := by
  refine ⟨fd, ps, F.ok S (fun vs H Q E h => ?_) (fun cdv A outer s H vs Q E hr h => ?_), M, b⟩
  · obtain ⟨S', a, ws, n, l, p, L, ds, Qd, rfl, e, r, nd, hS, as, h, _⟩ := h
    rw [List.length_cons, as.length]
    exact len _ _ _ ds Qd h
  · obtain ⟨S', a, ws, n, l, p, L, ds, Qd, rfl, e, r, nd, hS, as, h, k⟩ := h
    refine ⟨sOf _ dt, (hbody cdv A outer s H E hr).nox, ?_⟩
    refine ⟨S', offH L H, S', _, _, endsM a n Qd, own_startM (N := N) e r nd hS as hN, hd a n l p ds Qd h, fun S2 H2 σ2 env2 Lf2 _ o q => ?_, fun _ _ _ _ _ _ _ q => q.elim, fun _ _ _ _ _ _ _ q => q.elim, fun v S2 H2 σ2 env2 Lf2 t L2 o r2 p2 ⟨d, ht, q⟩ => ?_, fun _ _ _ _ _ _ _ _ _ _ _ q => q.elim⟩
    · obtain ⟨b', m', l', p', h1, eb, em, q2⟩ := bnAt_of q
      subst eb
      subst em
      obtain ⟨v2, k1, k2⟩ := o.slot 0 _ h1
      obtain ⟨_, _, _, _, _, g0, _⟩ := o.bnAt h1
      rw [g0] at k1
      cases k1
      exact k .non .non S2 H2 l' p' _ o.ext .non ⟨k2, o.nod 0, fun x m => ⟨(o.fr 0 x m).1, (o.fr 0 x m).2.1⟩⟩ q2
    · subst ht
      cases r2 with
      | sh r2 =>
      obtain ⟨b', m', l', p', h1, eb, em, q2⟩ := bnAt_of q
      subst eb
      subst em
      obtain ⟨v2, k1, k2⟩ := o.slot 0 _ h1
      obtain ⟨_, _, _, _, _, g0, _⟩ := o.bnAt h1
      rw [g0] at k1
      cases k1
      exact k v d S2 H2 l' p' _ o.ext r2 ⟨k2, o.nod 0, fun x m => ⟨(o.fr 0 x m).1, (o.fr 0 x m).2.1⟩⟩ q2
end W

/-! GD: a bench is made; a test that changes a bench. -/
namespace W
open PySem L2
/-- lines; laid and past behind -/
abbrev ISp := Int → (List D → List D → Prop) → Prop
def spIOf (K : PySem.W.Frag) (sp : ISp) : Sp := fun vs H Q _ => ∃ (S : Hp) (a dx : Addr) (n : Int) (Qd : List D → List D → Prop), vs = [.ref a, .int n] ∧ Same S H ∧ H a = some (.ins (He.ga K "Bench") dx []) ∧ H dx = some (.own a) ∧ S a = none ∧ S dx = none ∧ a ≠ dx ∧ sp n Qd ∧
  ∀ S' H' laid past L', Ext S (offH [a, dx] H) S' H' → BnEnd K S' H' a n laid past L' (offH [a, dx] H) → Qd laid past → Q .non H'
structure MakeB (P : Program) (w : PySem.World) (K : PySem.W.Frag) (mg : Str → Option Value) (base : Heap) (k : Nat) (sp : ISp) : Prop where
  ex : ∃ (fd : FuncData) (ps : List Str), FnOk P w K mg base CX0 k (He.ma K (He.ga K "Bench") "__init__") fd ps (spIOf K sp) ∧ Mk K (He.ga K "Bench") (He.ma K (He.ga K "Bench") "__init__") ∧ Binds K fd ps []
theorem MakeB.mono {P : Program} {w : PySem.World} {K : PySem.W.Frag} {mg : Str → Option Value} {base : Heap} {j k : Nat} {sp : ISp} (c : MakeB P w K mg base j sp) (h : j ≤ k) : MakeB P w K mg base k sp := by
  obtain ⟨fd, ps, F, r⟩ := c.ex
  exact ⟨fd, ps, F.mono h, r⟩
theorem offH_new {H : Hp} {a dx : Addr} {u v : HO} (ha : H a = none) (hd : H dx = none) : offH [a, dx] (upd (upd H dx v) a u) = H := by
  funext b
  by_cases h1 : b = a
  · subst h1
    rw [offH_in (by simp), ha]
  · by_cases h2 : b = dx
    · subst h2
      rw [offH_in (by simp), hd]
    · rw [offH_out (by simp [h1, h2]), upd_ne h1, upd_ne h2]
theorem ext_store {S H0 S' H' : Hp} {a : Addr} {u : HO} (e : Ext S H0 S' H') (h0 : H0 a = none) (hs : S' a = none) : Ext S H0 S' (upd H' a u) :=
  ⟨e.s, fun b v q => by rw [upd_ne (ne_of_none q h0)]; exact e.h b v q, fun b v q => by rw [upd_ne (ne_of_none q hs)]; exact e.le b v q, e.dom⟩
section
variable {X : Cx} {K : PySem.W.Frag} {a b e o c : Expr} {es : List Expr} {ba bb be : BT} {bs : BA} {bm : BM} {pos apos : Pos} {S0 H0 S H S' H' : Hp} {σ : L2.St} {env : List (Option T)} {Lf : Nat → List Addr}
/-- Bench(n) -/
def bMake (sp : ISp) (ba : BT) : BT := fun env Q => ba env fun t => ∃ n, t.d = .int n ∧ sp n fun laid past => ∀ a, Q (.bn a n laid past)
theorem b_make {k : Nat} {sp : ISp} {p : Pos} (B : BnC X.K X.mg) (c : MakeB X.prog X.w X.K X.mg X.base k sp) (hr : Room (k + 1) X.A) (hg : Gl X "Bench") (ha : PB X a ba)
    (he : starEach [a] X.env = (false, eval a X.env) :: starEach [] X.env := by rfl) (hpl : (backTo pos (starEach [] X.env)).any (·.1) = false := by rfl) : PB X (.Call (.Name "Bench" p) [a] [] pos) (bMake sp ba) := by
  obtain ⟨fd, ps, F, M, b⟩ := c.ex
  refine pe_weak (pe_make M F hr hg B.gl b .nil pass0 (pa_cons ha pa_nil he) (by decide) he hpl) fun σ H Q ⟨S, env, Qd, hS, hE, hh, hQ⟩ => ?_
  refine ⟨S, env, _, hS, hE, hh, fun v S1 H1 t O ⟨n, hd, q⟩ x dx hx hdx hne => ?_⟩
  obtain ⟨S2, e2, l2, a2⟩ := O.share
  rw [hd] at a2
  cases a2
  have eo := offH_new (u := .ins (He.ga X.K "Bench") dx []) (v := .own x) hx hdx
  refine ⟨S2, x, dx, n, _, rfl, fun b u h => ?_, upd_same, (upd_ne hne).trans upd_same, Same.none e2.le hx, Same.none e2.le hdx, Ne.symm hne, q, fun S' H' laid past L' e r q' => ⟨rfl, ?_⟩⟩
  · have h1 := e2.le b u h
    rw [upd_ne (ne_of_none h1 hx), upd_ne (ne_of_none h1 hdx)]
    exact h1
  · rw [eo] at e r
    exact hQ _ S' H' _ (Out.from e2 (show Out X.K S2 H1 (.ref x) (.bn x n laid past) S' H' from ⟨e, L', r.1, r.2.1, r.2.2⟩)) (q' x)
/-- __init__: four statements -/
def envI (m : Nat) (n : Int) : List (Option T) := none :: some (.sh (.int n)) :: List.replicate m none
def dInit (m : Nat) (b1 b2 b3 b4 : BT) (n : Int) (Q : List D → List D → Prop) : Prop := b1 (envI m n) fun _ => b2 (envI m n) fun t2 => t2.d = .int n ∧ b3 (envI m n) fun t3 => ∃ laid, t3 = .ow laid ∧ b4 (envI m n) fun t4 => ∃ ts, t4 = .ows ts ∧ Q laid (T.ds ts)
def tInit (X : Cx) (m : Nat) (b1 b2 b3 b4 : BT) : TS := fun D σ H => ∃ (S : Hp) (a dx : Addr) (n : Int) (Qd : List W.D → List W.D → Prop), σ = some (.ref a) :: some (.int n) :: List.replicate m none ∧ Same S H ∧ H a = some (.ins (He.ga X.K "Bench") dx []) ∧ H dx = some (.own a) ∧ S a = none ∧ S dx = none ∧ a ≠ dx ∧ dInit m b1 b2 b3 b4 n Qd ∧
        ∀ S' H' σ' laid past L', Ext S (offH [a, dx] H) S' H' → BnEnd X.K S' H' a n laid past L' (offH [a, dx] H) → Qd laid past → D.nx σ' H'
theorem ps_init (m : Nat) {e1 e2 e3 e4 : Expr} {b1 b2 b3 b4 : BT} {p1 p2 p3 p4 q2 q3 q4 r2 r3 r4 : Pos} (B : BnC X.K X.mg) (h1 : PB X e1 b1) (h2 : PB X e2 b2) (h3 : PB X e3 b3) (h4 : PB X e4 b4) (hN : X.N[0]? = some ("self" : Str)) (hv : Vis X.env.scope "self")
    (s1 : swapsWith e1 none p1.line X.env = pure false := by rfl) (s2 : swapsWith e2 (some (.Attribute (.Name "self" r2) "lines" q2)) p2.line X.env = pure false := by rfl) (s3 : swapsWith e3 (some (.Attribute (.Name "self" r3) "laid" q3)) p3.line X.env = pure false := by rfl) (s4 : swapsWith e4 (some (.Attribute (.Name "self" r4) "past" q4)) p4.line X.env = pure false := by rfl) :
    PSs X [.Expr e1 p1, .Assign [.Attribute (.Name "self" r2) "lines" q2] e2 p2, .Assign [.Attribute (.Name "self" r3) "laid" q3] e3 p3, .Assign [.Attribute (.Name "self" r4) "past" q4] e4 p4]
      (tInit X m b1 b2 b3 b4) := by
  refine pss_weak (pss_cons (ps_expr h1 s1) (pss_cons (ps_fld (pe_var hN hv) h2 s2) (pss_cons (ps_fld (pe_var hN hv) h3 s3) (pss_one (ps_fld (pe_var hN hv) h4 s4))))) fun D σ H ⟨S, a, dx, n, Qd, hσ, hS, ha, hdx, na, nd, ne, hd, k⟩ => ?_
  subst hσ
  have hE : ∀ S1, EnvS X.K S1 (some (.ref a) :: some (.int n) :: List.replicate m none) (envI m n) := fun S1 => ⟨by unfold envI; simp, fun i t h => by
    match i, h with
    | 0, h => cases h
    | 1, h => cases h; exact ⟨_, rfl, .int n⟩
    | i + 2, h =>
      have h2 : nth (List.replicate m none) i = some t := h
      rw [nth_get, List.getElem?_replicate] at h2
      split at h2 <;> cases h2⟩
  refine ⟨S, _, _, hS, hE _, hd, fun v S1 H1 t1 O1 q1 => ?_⟩
  obtain ⟨S2, x2, _, _⟩ := O1.share
  refine ⟨S2, _, _, x2.le, hE _, q1, fun v2 S3 H3 t2 O2 ⟨d2, q2⟩ => ?_⟩
  obtain ⟨S4, x4, _, a4⟩ := O2.share
  rw [d2] at a4
  cases a4
  have H3a := x4.h _ _ (x2.h _ _ ha)
  have H3d := x4.h _ _ (x2.h _ _ hdx)
  have S4a : S4 a = none := (x4.dom _ (.ins _ _ _) (x2.h _ _ ha)).trans ((x2.dom _ (.ins _ _ _) ha).trans na)
  have S4d : S4 dx = none := (x4.dom _ (.own _) (x2.h _ _ hdx)).trans ((x2.dom _ (.own _) hdx).trans nd)
  have E0 : Ext S (offH [a, dx] H) S H := ⟨.refl _, offH_le, hS, fun _ _ _ => rfl⟩
  have E4 := (E0.trans x2).trans x4
  have oa : offH [a, dx] H a = none := offH_in (by simp)
  have od : offH [a, dx] H dx = none := offH_in (by simp)
  have F1 := ext_store (u := .ins (He.ga X.K "Bench") dx (putF "lines" (V.int n) [])) E4 oa S4a
  refine ⟨.ref a, rfl, a, _, dx, [], rfl, H3a, B.cls, B.lines, by decide, ?_⟩
  refine ⟨S4, _, _, F1.le, hE _, q2, fun v3 S5 H5 t3 O3 ⟨laid, ht3, q3⟩ => ?_⟩
  subst ht3
  obtain ⟨x5, L5, r5, f5⟩ := O3
  cases r5 with
  | @ow l xs _ hl al =>
  have fl := f5.2 l (by simp)
  have H5a : H5 a = some (.ins (He.ga X.K "Bench") dx (putF "lines" (V.int n) [])) := x5.h _ _ upd_same
  have H5d : H5 dx = some (.own a) := x5.h _ _ ((upd_ne (Ne.symm ne)).trans H3d)
  have S5a : S5 a = none := (x5.dom _ (.ins _ _ _) upd_same).trans S4a
  have S5d : S5 dx = none := (x5.dom _ (.own _) ((upd_ne (Ne.symm ne)).trans H3d)).trans S4d
  have la : l ≠ a := fun z => by rw [z, upd_same] at fl; cases fl.1
  have ld : l ≠ dx := fun z => by rw [z, upd_ne (Ne.symm ne), H3d] at fl; cases fl.1
  have l0 : offH [a, dx] H l = none := Same.none F1.h fl.1
  have F2 := ext_store (u := .ins (He.ga X.K "Bench") dx (putF "laid" (V.ref l) (putF "lines" (V.int n) []))) (F1.trans x5) oa S5a
  refine ⟨.ref a, rfl, a, _, dx, _, rfl, H5a, B.cls, B.laid, by show 1 < 1000; decide, ?_⟩
  refine ⟨S5, _, _, F2.le, hE _, q3, fun v4 S7 H7 t4 O4 ⟨ts, ht4, q4⟩ => ?_⟩
  subst ht4
  obtain ⟨x7, L7, r7, f7⟩ := O4
  cases r7 with
  | @ows p ys _ M hp rp =>
  have fp := f7.2 p (by simp)
  have nM := (List.nodup_cons.mp f7.1).1
  have fM : Frs _ S7 M := ⟨(List.nodup_cons.mp f7.1).2, fun b m => f7.2 b (List.mem_cons_of_mem _ m)⟩
  have x8 := x7.shr fM
  have al8 : Same S7 (shr S7 H7 M) := shr_le x7.le
  have ap := rp.share al8 fun b m => shr_in m
  have H7a : H7 a = some (.ins (He.ga X.K "Bench") dx (putF "laid" (V.ref l) (putF "lines" (V.int n) []))) := x7.h _ _ upd_same
  have H7d : H7 dx = some (.own a) := x7.h _ _ ((upd_ne (Ne.symm ne)).trans H5d)
  have H7l : H7 l = some (.lst xs) := x7.h _ _ ((upd_ne la).trans hl)
  have S8a : shr S7 H7 M a = none := (x8.dom _ (.ins _ _ _) upd_same).trans S5a
  have S8d : shr S7 H7 M dx = none := (x8.dom _ (.own _) ((upd_ne (Ne.symm ne)).trans H5d)).trans S5d
  have S8l : shr S7 H7 M l = none := (x8.dom _ (.lst _) ((upd_ne la).trans hl)).trans fl.2
  have pa : p ≠ a := fun z => by rw [z, upd_same] at fp; cases fp.1
  have pd : p ≠ dx := fun z => by rw [z, upd_ne (Ne.symm ne), H5d] at fp; cases fp.1
  have pl : p ≠ l := fun z => by rw [z, upd_ne la, hl] at fp; cases fp.1
  have p0 : offH [a, dx] H p = none := Same.none F2.h fp.1
  have S8p : shr S7 H7 M p = none := by rw [shr_out nM]; exact fp.2
  have F3 := ext_store (u := .ins (He.ga X.K "Bench") dx (bnF n l p)) (F2.trans x8) oa S8a
  refine ⟨.ref a, rfl, a, _, dx, _, rfl, H7a, B.cls, B.past, by show 2 < 1000; decide, ?_⟩
  refine k (shr S7 H7 M) _ _ laid (T.ds ts) [a, dx, l, p] F3 ⟨.bn upd_same ((upd_ne (Ne.symm ne)).trans H7d) ((upd_ne la).trans H7l) ((upd_ne pa).trans hp) (al.mono (x7.s.trans al8)) ap, ?_, fun x m => ?_⟩ q4
  · simp only [List.nodup_cons, List.mem_cons, List.not_mem_nil, or_false, not_or, not_false_eq_true, List.nodup_nil, and_true]
    exact ⟨⟨ne, Ne.symm la, Ne.symm pa⟩, ⟨Ne.symm ld, Ne.symm pd⟩, Ne.symm pl⟩
  · simp only [List.mem_cons, List.not_mem_nil, or_false] at m
    rcases m with rfl | rfl | rfl | rfl
    · exact ⟨oa, S8a⟩
    · exact ⟨od, S8d⟩
    · exact ⟨l0, S8l⟩
    · exact ⟨p0, S8p⟩
end
theorem make_mk {P : Program} {w : PySem.World} {K : PySem.W.Frag} {mg : Str → Option Value} {base : Heap} {x q : Str} {params : Arguments} {body : List Stmt} {scope : Scope} {fd : FuncData} {N ps : List Str} {k m : Nat} {sp : ISp} {b1 b2 b3 b4 : BT}
    (F : FunD K x q params body scope [] [] (He.ma K (He.ga K "Bench") "__init__") fd) (M : Mk K (He.ga K "Bench") (He.ma K (He.ga K "Bench") "__init__")) (b : Binds K fd ps []) (S : FnScope N ps scope) (hN : N.length = m + 2) (hp : ps.length = 2)
    (hbody : ∀ (cdv : Value) (A : Around) (outer : List PySem.Env) (s : Shared) (H : Hp) (E : XK), Room k (A.deeper (PyProof.Rows.envOfC q scope s.heap.objs.size (He.ma K (He.ga K "Bench") "__init__") cdv)) → PSs (cxOf CX0 P w K mg base N q scope (He.ma K (He.ga K "Bench") "__init__") cdv A outer s H E).nox body (tInit (cxOf CX0 P w K mg base N q scope (He.ma K (He.ga K "Bench") "__init__") cdv A outer s H E).nox m b1 b2 b3 b4))
    (hd : ∀ n Q, sp n Q → dInit m b1 b2 b3 b4 n Q) : MakeB P w K mg base (k + 1) sp := by
  refine ⟨fd, ps, F.ok S (fun vs H Q E h => ?_) (fun cdv A outer s H vs Q E hr h => ?_), M, b⟩
  · obtain ⟨S', a, dx, n, Qd, rfl, _⟩ := h
    exact hp.symm
  · obtain ⟨S', a, dx, n, Qd, rfl, h1, h2, h3, h4, h5, h6, h7, h8⟩ := h
    refine ⟨_, (hbody cdv A outer s H E hr).nox, ?_⟩
    refine ⟨S', a, dx, n, Qd, ?_, h1, h2, h3, h4, h5, h6, hd n Qd h7, fun S2 H2 σ2 laid past L' e r q => h8 S2 H2 laid past L' e r q⟩
    unfold L2.start
    rw [hN]
    rfl
section
variable {X : Cx} {K : PySem.W.Frag} {a b e o c : Expr} {bm : BM} {pos : Pos} {du dv : DS} {q : BTT}
/-! ### a test that changes something of ours -/
def sIfN (b : BM) (d e : DS) : DS := fun De env => b env fun t env1 => asB t fun k => ((!k) = true → d De env1) ∧ ((!k) = false → e De env1)
theorem s_ifN {as bs : List Stmt} {p : Pos} (hc : PM X c bm) (h : PSds X as du) (k : PSds X bs dv) (he : ∀ whole, isTrue c X.env whole = (do let v ← whole; standAt c.pos; holding [v] (truthy v)) := by intro _; rfl) : PSd X (.If (.UnaryOp .Not c p) as bs pos) (sIfN bm du dv) :=
  ps_weak (ps_if (pt_not (pt_val hc he)) h k) fun D σ H ⟨S0, H0, S, env, Lf, De, o, hd, n, b, c, r⟩ => by
  refine ⟨S0, H0, S, env, Lf, _, o, hd, fun v S' H' t L env' Lf' e o' r' pe _ q => ?_⟩
  obtain ⟨k, rfl, q1, q2⟩ := asB_at q
  cases r' with
  | sh a =>
  cases a
  refine ⟨k, rfl, ?_⟩
  cases k with
  | true => exact iteF ⟨S0, H0, S', env', Lf', De, o', q2 rfl, fun S2 H2 σ2 env2 Lf2 e3 => n S2 H2 σ2 env2 Lf2 (e.trans e3), fun S2 H2 σ2 env2 Lf2 e3 => b S2 H2 σ2 env2 Lf2 (e.trans e3), fun S2 H2 σ2 env2 Lf2 e3 => c S2 H2 σ2 env2 Lf2 (e.trans e3), r.1, r.2.step e⟩
  | false => exact iteT ⟨S0, H0, S', env', Lf', De, o', q1 rfl, fun S2 H2 σ2 env2 Lf2 e3 => n S2 H2 σ2 env2 Lf2 (e.trans e3), fun S2 H2 σ2 env2 Lf2 e3 => b S2 H2 σ2 env2 Lf2 (e.trans e3), fun S2 H2 σ2 env2 Lf2 e3 => c S2 H2 σ2 env2 Lf2 (e.trans e3), r.1, r.2.step e⟩
end
end W

/-! GE: dicts whose keys are tuples of ints. -/
namespace W
open PySem L2
def dtPut (ks : List (List Int)) (k : List Int) : List (List Int) := if k ∈ ks then ks else ks ++ [k]
theorem inl_inj {a b : List Int} : (a.map (Sum.inl : Int → Key) = b.map Sum.inl) ↔ a = b := by
  exact List.map_inj_right fun x y h => Sum.inl.inj h
theorem putK_dt (ks : List (List Int)) (k : List Int) : putK (dtV ks) (k.map Sum.inl) (.bl true) = dtV (dtPut ks k) := by
  unfold putK dtPut
  have e : ((dtV ks).any fun kv => decide (kv.1 = k.map Sum.inl)) = decide (k ∈ ks) := by
    rw [Bool.eq_iff_iff]
    unfold dtV
    simp only [List.any_eq_true, List.mem_map, decide_eq_true_eq]
    constructor
    · rintro ⟨x, ⟨z, hz, rfl⟩, h⟩
      rw [inl_inj.mp h] at hz
      exact hz
    · intro h
      exact ⟨_, ⟨k, h, rfl⟩, rfl⟩
  rw [e]
  by_cases h : k ∈ ks
  · rw [decide_eq_true h, if_pos rfl, if_pos h]
    unfold dtV
    rw [List.map_map]
    refine List.map_congr_left fun z _ => ?_
    simp only [Function.comp]
    split <;> simp_all
  · rw [decide_eq_false h, if_neg (by simp), if_neg h]
    unfold dtV
    rw [List.map_append]
    rfl
section
variable {X : Cx} {K : PySem.W.Frag} {a b e o : Expr} {es : List Expr} {ba bb be : BT} {bs : BA} {pos : Pos} {S0 H0 S H S' H' : Hp} {σ : L2.St} {env : List (Option T)} {Lf : Nat → List Addr} {v : V} {t : T}
/-- some thing within slot i is written -/
theorem Own.writeOM {i : Nat} {q : Addr} {u : OM} (o : Own K S0 H0 S H σ env Lf) (hi : i < env.length) (hv : σ[i]? = some (some v)) (hq : q ∈ Lf i) (r : Res K S (upd H q u.ho) v t (Lf i)) : Own K S0 H0 S (upd H q u.ho) σ (env.set i (some t)) Lf := by
  have ne : ∀ j a, a ∈ Lf j → j ≠ i → a ≠ q := fun j a m z w => by subst w; exact z (o.dis j i a m hq)
  obtain ⟨f1, f2, zs, f3⟩ := o.fr i q hq
  refine ⟨⟨o.ext.s, fun a u h => ?_, fun a u h => ?_, o.ext.dom⟩, by rw [List.length_set]; exact o.len, fun j u hu => ?_, o.nod, o.dis, fun j a m => ?_⟩
  · have : a ≠ q := fun z => by subst z; rw [f1] at h; cases h
    rw [upd_ne this]; exact o.ext.h a u h
  · have : a ≠ q := fun z => by subst z; rw [f2] at h; cases h
    rw [upd_ne this]; exact o.ext.le a u h
  · rw [nth_set] at hu
    by_cases hji : j = i
    · subst hji
      rw [if_pos ⟨rfl, hi⟩] at hu
      cases hu
      exact ⟨_, hv, r⟩
    · rw [if_neg (fun z => hji z.1)] at hu
      obtain ⟨w, h1, h2⟩ := o.slot j u hu
      exact ⟨w, h1, h2.mono (.refl _) fun a m => upd_ne (ne j a m hji)⟩
  · obtain ⟨g1, g2, ws, g3⟩ := o.fr j a m
    refine ⟨g1, g2, ?_⟩
    by_cases z : a = q
    · subst z; exact ⟨u, upd_same⟩
    · rw [upd_ne z]; exact ⟨ws, g3⟩
/-- {} -/
def bDNew : BT := fun _ Q => Q (.dt [])
theorem b_dnew : PB X (.Dict [] [] pos) bDNew := pe_weak pe_dnewT fun σ H Q ⟨S, env, Qd, hS, hE, hh, hQ⟩ => fun p hp =>
  hQ _ S _ _ ⟨ext_new hS hp, [p], .dt upd_same, frs_one hp (Same.none hS hp)⟩ hh
def dtAt (o : Option T) (k : List (List Int) → Prop) : Prop := match o with
  | some (.dt ks) => k ks
  | _ => False
theorem dtAt_dt {ks : List (List Int)} {k : List (List Int) → Prop} : dtAt (some (.dt ks)) k = k ks := rfl
theorem dtAt_of {o : Option T} {k : List (List Int) → Prop} (h : dtAt o k) : ∃ ks, o = some (.dt ks) ∧ k ks := by
  unfold dtAt at h
  split at h
  · exact ⟨_, rfl, h⟩
  · exact h.elim
/-- x[tuple(e)] = True -/
def sDPutT (i : Nat) (be : BT) : DS := fun De env => dtAt (nth env i) fun ks => ks.length < 100000 ∧ be (hide env) fun t => ∃ k : List Int, t.d = .lst (k.map .int) ∧ De.nx (env.set i (some (.dt (dtPut ks k))))
theorem s_dputT (i : Nat) {x : Str} {npos p1 p2 p3 p4 : Pos} {j : Nat} (hu : X.A.units + 1 < cLine) (hm : X.mg "tuple" = none) (hg : Gl X "tuple") (he : PB X e be) (hN : X.N[i]? = some x := by rfl) (hv : Vis X.env.scope x := by first | exact Or.inl rfl | exact Or.inr (Or.inl rfl) | exact Or.inr (Or.inr rfl)) (hd : (x == ("__debug__" : Str)) = false := by decide)
    (hcd : (x == ("__classdict__" : Str)) = false := by decide) (na : starEach [e] X.env = (false, eval e X.env) :: starEach [] X.env := by rfl)
    (hs : swapsWith (.Constant (.bool true) j p1) (some (.Subscript (.Name x npos) (.Call (.Name "tuple" p2) [e] [] p3) p4)) pos.line X.env = pure false := by rfl) :
    PSd X (.Assign [.Subscript (.Name x npos) (.Call (.Name "tuple" p2) [e] [] p3) p4] (.Constant (.bool true) j p1) pos) (sDPutT i be) :=
  ps_weak (ps_dput hu (pe_var hN hv hd hcd) (pe_tupleOf hg hm he na) pe_bl hs) fun D σ H ⟨S0, H0, S, env, Lf, De, o, hd, n, bb, c, r⟩ => by
  obtain ⟨ks, hi, hl, hd⟩ := dtAt_of hd
  obtain ⟨w, h1, h2⟩ := o.slot i _ hi
  generalize hL : Lf i = L at h2
  cases h2 with
  | @dt p _ hp =>
  refine ⟨.ref p, h1, S, hide env, _, o.ext.le, o.hid, hd, fun v S' H' t O ⟨k, hk, q⟩ => ?_⟩
  obtain ⟨S2, e2, l2, a2⟩ := O.share
  rw [hk] at a2
  cases a2 with
  | @lst pk xs _ hpk hx =>
  have ex := hx.ints
  subst ex
  refine .inl ⟨pk, _, rfl, .inl (.inl (e2.le _ _ hpk)), fun y hy => ?_⟩
  have hp2 : upd H' y (.tup (k.map V.int)) p = some (.dT (dtV ks)) := (upd_ne (ne_of_none (e2.h _ _ hp) hy)).trans (e2.h _ _ hp)
  have hky : upd H' y (.tup (k.map V.int)) y = some (.tup ((k.map (Sum.inl : Int → Key)).map kV)) := by rw [upd_same, List.map_map]; rfl
  refine ⟨p, _, rfl, DPut.t hp2 hky (by unfold dtV; rw [List.length_map]; exact lt_line hl), ?_⟩
  rw [putK_dt]
  have e3 := ext_new (o := .tup (k.map V.int)) e2.le hy
  have o3 := o.grow (e2.trans e3)
  refine n _ _ σ _ Lf e2.s (o3.writeOM (i := i) (q := p) (u := .dT (dtV (dtPut ks k))) (v := .ref p) (by rw [← o.len]; exact (List.getElem?_eq_some_iff.mp h1).1) h1 (by rw [hL]; simp) (by rw [hL]; exact .dt upd_same)) q
/-- list(d) -/
def tupI (k : List Int) : D := .tup (k.map .int)
def fListDT : SpD := fun ds Q => ∃ ks : List (List Int), ds = [.dt ks] ∧ Q (.ow (ks.map tupI))
theorem keys_ats {H : Hp} : ∀ {ks : List (List Int)} {bs : List Addr}, IsKeys H (dtV ks) bs → (∀ b ∈ bs, ∃ xs, H b = some (.tup xs)) ∧ ∀ S, (∀ b ∈ bs, S b = H b) → Ats K S (bs.map V.ref) (ks.map tupI)
  | [], _, .nil => ⟨fun b m => (by cases m), fun S _ => .nil⟩
  | k :: ks, b0 :: bs, .cons h r => by
    obtain ⟨i1, i2⟩ := keys_ats (ks := ks) r
    have h2 : H b0 = some (.tup (k.map V.int)) := by
      have : ((k.map (Sum.inl : Int → Key)).map kV) = k.map V.int := by rw [List.map_map]; rfl
      rw [← this]
      exact h
    refine ⟨fun b m => ?_, fun S hS => .cons (.tup (.inl (.inl ((hS _ (by simp)).trans h2))) (Ats.of_ints k)) (i2 S fun b m => hS b (List.mem_cons_of_mem _ m))⟩
    rcases List.mem_cons.mp m with rfl | m
    · exact ⟨_, h2⟩
    · exact i1 b m
theorem ext_adopt {L : List Addr} (e : Same S H) (h : ∀ b ∈ L, ∃ xs, H b = some (.tup xs)) : Ext S H (shr S H L) H :=
  ⟨shr_le e, .refl _, shr_ge e, fun a u q => shr_out fun m => by
    obtain ⟨xs, hx⟩ := h a m
    rw [q] at hx
    cases u <;> cases hx⟩
theorem c_listDT (hc : X.calm = true) : BlD X (.type "list") fListDT := ⟨_, call_list_dT hc, fun S H vs ds Q Qd hS h hf hQ => by
  obtain ⟨ks, rfl, hf⟩ := hf
  obtain ⟨v, rfl, a⟩ := ats1 h
  cases a with
  | @dt p _ hp =>
  refine ⟨p, dtV ks, rfl, .inl (hS _ _ hp), fun q bs hq hk => ?_⟩
  obtain ⟨k1, k2⟩ := keys_ats (K := X.K) hk
  have ea := ext_adopt hS k1
  exact hQ _ _ _ _ ((Out.ow ea.le hq (k2 _ fun b m => shr_in m)).from ea) hf⟩
end
end W

/-! GF: sorted of tuples of ints, any number of them. -/
namespace TS
open PySem PyProof.Rows SrtO Srt
section
variable {prog : Program} {w : World} {A : Around} {E : Value → Shared → Prop} {s : Shared}
theorem swo_code (r : Value → Int) : Swo fun u v => decide (r u < r v) := ⟨fun x y h => by
  have := of_decide_eq_true h
  exact decide_eq_false (by omega), fun x y z h1 h2 => by
  have := of_decide_eq_false h1
  have := of_decide_eq_false h2
  exact decide_eq_false (by omega)⟩
theorem cmp_tups {d : Nat} {B : Int} {vs : List Value} (x : TupsOk s.heap d B vs) (r : Value → Int) (hr : ∀ v, v ∈ vs → ∀ ns, TupInts s.heap v ns → r v = code B ns) : SrtO.Cmp prog w A s (tuples' true) (fun p => p.1 ∈ vs) (lt2 fun u v => decide (r u < r v)) := by
  intro p q hp hq
  obtain ⟨ns, tp, lp, bp⟩ := x _ hp
  obtain ⟨ms, tq, lq, bq⟩ := x _ hq
  have ep := hr _ hp _ tp
  have eq2 := hr _ hq _ tq
  show wpAny (model prog w) A (keyLt' (tuples' true) p.1 q.1) (fun b s' => s' = s ∧ b = decide (r p.1 < r q.1)) (fun _ _ => False) s
  rw [ep, eq2]
  obtain ⟨a, xs, e1, ⟨o, ho, hc, n, hdt⟩, i⟩ := tp
  obtain ⟨a', ys, e2, ⟨o', ho', hc', n', hdt'⟩, i'⟩ := tq
  rw [e1, e2]
  refine PySem.W.kat_lt ho hdt ho' hdt' ?_
  have sz : decide (xs.size < ys.size) = false := by
    have l1 := i.length
    have l2 := i'.length
    rw [Array.length_toList] at l1 l2
    exact decide_eq_false (by omega)
  rw [sz]
  exact lex_ints 0 i i' (by omega) bp bq ⟨rfl, rfl⟩
theorem tups_sortableO {a : Addr} {d : Nat} {B : Int} {vs : List Value} (hd : 1 ≤ d) (h0 : 0 < vs.length) (x : TupsOk s.heap d B vs) (r : Value → Int) (hr : ∀ v, v ∈ vs → ∀ ns, TupInts s.heap v ns → r v = code B ns) (ha : ∀ o, s.heap.get? a = some o → o.cls ≠ .type "tuple") :
    SortableO prog w A s a vs fun u v => decide (r u < r v) := by
  intro h' keep
  have kp : ∀ b o, s.heap.get? b = some o → o.cls = .type "tuple" → h'.get? b = some o := fun b o e c => keep b o (fun z => by subst z; exact ha o e c) e
  have x' : TupsOk h' d B vs := x.keeps kp
  obtain ⟨fs, k, hl, hi⟩ := TS.firsts_of hd vs x'
  refine ⟨tuples' true, fun Q E hq => ?_, cmp_tups (s := { s with heap := h' }) x' r fun v hv ns t => ?_⟩
  · refine PySem.W.kat_kind (T := .type "int") k (by omega) (fun f hm => ?_) (by rfl) ?_
    · obtain ⟨y, t, rfl⟩ := hi f hm
      exact PySem.W.Looks.now
    · have e : (Value.type "int" != Value.type "tuple") = true := by first | decide +kernel | rfl | decide
      rw [e]
      exact hq
  · obtain ⟨ns0, t0, _⟩ := x v hv
    have e : ns = ns0 := t.ints.symm.trans (t0.keeps kp).ints
    rw [e]
    exact hr v hv ns0 t0
theorem sorted_tupsO {l : Addr} {d : Nat} {B : Int} {vs : List Value} {Q : Value → Shared → Prop} (hl : s.heap.IsList l vs.toArray) (hz : vs.length ≤ sizeLine) (hd : 1 ≤ d) (x : TupsOk s.heap d B vs)
    (h : ∀ out : List Value, out.Perm vs → out.Pairwise (fun u v => code B (intsOf s.heap u) ≤ code B (intsOf s.heap v)) → Q (.ref (s.heap.objs.size + 1)) { s with heap := sortedAll s.heap vs out.toArray }) :
    wpAny (model prog w) A (call (.builtin "sorted") [.ref l]) Q E s := by
  have hr : ∀ v, v ∈ vs → ∀ ns, TupInts s.heap v ns → code B (intsOf s.heap v) = code B ns := fun v _ ns t => by rw [t.ints]
  refine sorted_ord (swo_code fun v => code B (intsOf s.heap v)) hl hz (fun h2 h₁ a ha kk => ?_) fun out hs hb => ?_
  · have kp : ∀ b o, s.heap.get? b = some o → o.cls = .type "tuple" → h₁.get? b = some o := fun b o e _ => (kk b o e).2
    refine tups_sortableO (s := { s with heap := h₁ }) hd (by omega) (x.keeps kp) _ (fun v hv ns t => ?_) fun o e => ?_
    · obtain ⟨ns0, t0, _⟩ := x v hv
      have e : ns = ns0 := t.ints.symm.trans (t0.keeps kp).ints
      rw [e]
      exact hr v hv ns0 t0
    · have e' : some o = some (seqObj "list" vs.toArray 0) := e.symm.trans ha
      cases e'
      intro c
      exact absurd (Value.type.inj c) (by decide)
  · refine h out hb.perm (hs.imp fun {u v} q => ?_)
    have := of_decide_eq_false q
    omega
end
end TS
namespace L2
open PySem PySem.Spec PyProof.Rows
section
variable {X : Cx}
def rSortL (K : PySem.W.Frag) (d : Nat) (B : Int) : List V → Hp → VK → Prop := fun vs H Q => ∃ (a : Addr) (xs : List V), vs = [V.ref a] ∧ SqL K H a xs ∧ (∀ x ∈ xs, ∃ ns, TupI K H x ns ∧ ns.length = d ∧ TS.Bd B ns) ∧
  ∀ (ys : List V) (p : Addr), ys.Perm xs → ys.Pairwise (fun x y => ∀ n m, TupI K H x n → TupI K H y m → TS.code B n ≤ TS.code B m) → H p = none → Q (.ref p) (upd H p (.lst ys))
theorem cr_sortL {d : Nat} {B : Int} (hd : 1 ≤ d) : CallR X (.builtin "sorted") (rSortL X.K d B) := by
  intro pins s σ H vs us Q I r h
  obtain ⟨a, xs, rfl, hs, hx, q⟩ := h
  obtain ⟨its, rv, hl, hz⟩ := I.list hs
  rw [Vals.ref1 r]
  obtain ⟨e1, e2⟩ := bkV_refs rv fun x m => by
    obtain ⟨ns, ⟨t, e, _⟩, _⟩ := hx x m
    exact ⟨t, e⟩
  refine TS.sorted_tupsO (d := d) (B := B) hl.isList (by rw [← rv.length]; exact hz) hd (fun v hv => ?_) fun out h1 h2 => ?_
  · obtain ⟨t, rfl⟩ := e2 v hv
    have hm : V.ref t ∈ xs := by
      rw [e1]
      exact List.mem_map.mpr ⟨_, hv, rfl⟩
    obtain ⟨ns, ⟨t', e, ht⟩, hn, hb⟩ := hx _ hm
    cases e
    exact ⟨ns, tupI_raw I ht, hn, hb⟩
  · obtain ⟨ep, he'⟩ := PyProof.Rows.sortedAll_at s.heap its out.toArray
    have h3 : ∀ u ∈ out, ∃ a, u = Value.ref a := fun u hu => e2 u (h1.mem_iff.mp hu)
    have hp : (out.map bkV).Perm xs := by
      rw [e1]
      exact h1.map bkV
    have hlen : (out.map bkV).length ≤ sizeLine := by
      rw [hp.length_eq]
      exact hz
    refine ⟨.ref _, upd H (s.heap.objs.size + 1) (.lst (out.map bkV)), I.laid (t' := s.toks) (fun _ _ => PyProof.Rows.sortedAll_old) (Nat.le_succ _) ⟨hlen, out, ep, bkV_vals h3, he'⟩, rfl, q _ _ hp ?_ (I.hok.fresh (Nat.le_succ _))⟩
    rw [List.pairwise_map]
    refine List.Pairwise.imp (fun {u v} huv n m hn hm => ?_) h2
    obtain ⟨t, et, ht⟩ := hn
    obtain ⟨t', et', ht'⟩ := hm
    have eu := bkV_ref et
    have ev := bkV_ref et'
    have i1 : TS.intsOf s.heap u = n := by
      rw [eu]
      exact (tupI_raw I ht).ints
    have i2 : TS.intsOf s.heap v = m := by
      rw [ev]
      exact (tupI_raw I ht').ints
    rw [← i1, ← i2]
    exact huv
end
end L2

/-! GG: sorted of rows of noughts and ones that are tuples. -/
namespace W
open PySem L2
def RowB (d : Nat) (r : List Int) : Prop := r.length = d ∧ TS.Bd 2 r
def srtT (rows : List (List Int)) : List (List Int) := rows.mergeSort fun a b => decide (TS.code 2 a ≤ TS.code 2 b)
theorem srtT_perm (rows : List (List Int)) : (srtT rows).Perm rows := List.mergeSort_perm _ _
theorem srtT_le (rows : List (List Int)) : (srtT rows).Pairwise fun a b => TS.code 2 a ≤ TS.code 2 b := by
  have h := List.pairwise_mergeSort (le := fun a b => decide (TS.code 2 a ≤ TS.code 2 b)) (fun a b c h1 h2 => by rw [decide_eq_true_iff] at *; omega) (fun a b => by rw [Bool.or_eq_true, decide_eq_true_iff, decide_eq_true_iff]; omega) rows
  exact h.imp fun h => by simpa using h
theorem code_inj {B : Int} : ∀ {a b : List Int}, a.length = b.length → TS.Bd B a → TS.Bd B b → TS.code B a = TS.code B b → a = b
  | [], [], _, _, _, _ => rfl
  | [], _ :: _, h, _, _, _ => by cases h
  | _ :: _, [], h, _, _, _ => by cases h
  | x :: a, y :: b, hl, ha, hb, h => by
    have hl2 : a.length = b.length := by simpa using hl
    rcases Int.lt_trichotomy x y with z | z | z
    · have := TS.code_lt hl2 ha.tail hb.tail z
      omega
    · subst z
      have e : TS.code B a = TS.code B b := by
        have h1 : x * B ^ a.length + TS.code B a = x * B ^ b.length + TS.code B b := h
        rw [hl2] at h1
        omega
      rw [code_inj hl2 ha.tail hb.tail e]
    · have := TS.code_lt hl2.symm hb.tail ha.tail z
      omega
section
variable {X : Cx} {K : PySem.W.Frag}
theorem atsT_perm {S : Hp} {xs ys : List V} (p : xs.Perm ys) : ∀ cs : List (List Int), Ats K S xs (cs.map tupI) → ∃ cs' : List (List Int), cs'.Perm cs ∧ Ats K S ys (cs'.map tupI) := by
  induction p with
  | nil => exact fun cs h => ⟨cs, .refl _, h⟩
  | cons x p ih =>
    intro cs h
    cases cs with
    | nil => cases h
    | cons c cs =>
      cases h with
      | cons a r =>
        obtain ⟨cs', q, r'⟩ := ih cs r
        exact ⟨c :: cs', q.cons c, .cons a r'⟩
  | swap x y l =>
    intro cs h
    match cs, h with
    | c :: d :: cs, .cons a (.cons b r) => exact ⟨d :: c :: cs, .swap _ _ _, .cons b (.cons a r)⟩
  | trans p1 p2 i1 i2 =>
    intro cs h
    obtain ⟨c1, q1, r1⟩ := i1 cs h
    obtain ⟨c2, q2, r2⟩ := i2 c1 r1
    exact ⟨c2, q2.trans q1, r2⟩
theorem at_tupI {S : Hp} {v : V} {c : List Int} (h : At K S v (tupI c)) : TupI K S v c := by
  unfold tupI at h
  cases h with
  | tup hp a => exact ⟨_, rfl, by rw [a.ints] at hp; exact hp⟩
theorem atsT_pair {S : Hp} {R : List Int → List Int → Prop} {V2 : V → V → Prop} (k : ∀ x y c d, At K S x (tupI c) → At K S y (tupI d) → V2 x y → R c d) : ∀ {xs : List V} {cs : List (List Int)}, Ats K S xs (cs.map tupI) → xs.Pairwise V2 → cs.Pairwise R
  | _, [], _, _ => .nil
  | _, c :: cs, .cons a r, .cons h1 h2 => by
    refine .cons (fun d m => ?_) (atsT_pair k r h2)
    obtain ⟨i, hi⟩ := List.getElem?_of_mem m
    obtain ⟨y, hy, ay⟩ := r.get (i := i) (d := tupI d) (by rw [List.getElem?_map, hi]; rfl)
    exact k _ _ _ _ a ay (h1 y (List.mem_of_getElem? hy))
def fSortT (d : Nat) : SpD := fun ds Q => ∃ rows : List (List Int), ds = [.lst (rows.map tupI)] ∧ (∀ r ∈ rows, RowB d r) ∧ Q (.ow ((srtT rows).map tupI))
theorem ref_sortT {d : Nat} : RefL K (rSortL K d 2) (fSortT d) := by
  intro S H vs ds Q Qd hS h hf hQ
  obtain ⟨cs, rfl, hb, hf⟩ := hf
  obtain ⟨v, rfl, a⟩ := ats1 h
  cases a with
  | @lst p xs _ hp ha =>
    refine ⟨p, xs, rfl, .inl (.inl (hS _ _ hp)), fun x m => ?_, fun ys q h1 h2 hq => ?_⟩
    · obtain ⟨i, hi⟩ := List.getElem?_of_mem m
      obtain ⟨d', hd', ad⟩ := ha.getV hi
      rw [List.getElem?_map] at hd'
      obtain ⟨c, hc, rfl⟩ := Option.map_eq_some_iff.mp hd'
      obtain ⟨b1, b2⟩ := hb c (List.mem_of_getElem? hc)
      obtain ⟨t, e, ht⟩ := at_tupI ad
      exact ⟨c, ⟨t, e, same_t hS ht⟩, b1, b2⟩
    · obtain ⟨cs', p1, p2⟩ := atsT_perm h1.symm cs ha
      have hw : cs'.Pairwise fun a b => TS.code 2 a ≤ TS.code 2 b := atsT_pair (fun x y c d ax ay k => by
        obtain ⟨t, et, ht⟩ := at_tupI ax
        obtain ⟨t', et', ht'⟩ := at_tupI ay
        exact k _ _ ⟨t, et, same_t hS ht⟩ ⟨t', et', same_t hS ht'⟩) p2 h2
      have e : cs' = srtT cs := by
        refine (p1.trans (srtT_perm cs).symm).eq_of_pairwise (le := fun a b => TS.code 2 a ≤ TS.code 2 b) (fun a b ma mb q1 q2 => ?_) hw (srtT_le cs)
        obtain ⟨a1, a2⟩ := hb a (p1.mem_iff.mp ma)
        obtain ⟨b1, b2⟩ := hb b ((srtT_perm cs).mem_iff.mp mb)
        exact code_inj (by omega) a2 b2 (by omega)
      subst e
      exact hQ _ _ _ _ (.ow hS hq p2) hf
/-- .. of any length d -/
def fSortTs : SpD := fun ds Q => ∃ d, 1 ≤ d ∧ fSortT d ds Q
theorem c_sortTs : BlD X (.builtin "sorted") fSortTs :=
  ⟨fun vs H Q => ∃ d, 1 ≤ d ∧ rSortL X.K d 2 vs H Q, fun pins s σ H xs us Q I r ⟨d, hd, h⟩ => cr_sortL hd pins s σ H xs us Q I r h, fun S H vs ds Q Qd hS h ⟨d, hd, hf⟩ hQ => ⟨d, hd, ref_sortT S H vs ds Q Qd hS h hf hQ⟩⟩
end
end W

/-! GH: a class's methods that change nothing; Bench(n) some levels up. -/
namespace W
open PySem L2
theorem methD_mk {P : Program} {w : PySem.World} {K : PySem.W.Frag} {mg : Str → Option Value} {base : Heap} {x q : Str} {params : Arguments} {body : List Stmt} {scope : Scope} {fd : FuncData} {N ps : List Str} {k : Nat} {sp : SpD} {dt : DS}
    (F : FunD K x q params body scope [] [] (He.ma K (He.ga K "Bench") x) fd) (M : Meth K (He.ga K "Bench") x (He.ma K (He.ga K "Bench") x)) (b : Binds K fd ps []) (S : FnScope N ps scope) (len : ∀ ds Q, sp ds Q → ds.length = ps.length)
    (hbody : ∀ (cdv : Value) (A : Around) (outer : List PySem.Env) (s : Shared) (H : Hp) (E : XK), Room k (A.deeper (PyProof.Rows.envOfC q scope s.heap.objs.size (He.ma K (He.ga K "Bench") x) cdv)) → PSds (cxOf CX0 P w K mg base N q scope (He.ma K (He.ga K "Bench") x) cdv A outer s H E).nox body dt)
    (hd : ∀ ds Q, sp ds Q → dt (ends0 Q) (env0 N.length ds)) : MethD P w K mg base (k + 1) x sp := by
  refine ⟨fd, ps, F.ok S (fun vs H Q E h => ?_) (fun cdv A outer s H vs Q E hr h => ?_), M, b⟩
  · obtain ⟨S', ds, Qd, e, a, h, _⟩ := h
    rw [a.length]
    exact len ds Qd h
  · obtain ⟨S', ds, Qd, e, a, h, k⟩ := h
    refine ⟨sOf _ dt, (hbody cdv A outer s H E hr).nox, ?_⟩
    refine ⟨S', H, S', env0 N.length ds, fun _ => [], ends0 Qd, own_start e a, hd ds Qd h, fun S2 H2 σ2 env2 Lf2 _ o q => ?_, fun _ _ _ _ _ _ _ q => q.elim, fun _ _ _ _ _ _ _ q => q.elim, fun v S2 H2 σ2 env2 Lf2 t L o r p q => k v S2 H2 t (o.out r p) q, fun _ _ _ _ _ _ _ _ _ _ _ q => q.elim⟩
    exact k .non S2 H2 _ ((Out.sh o.ext.le .non).from o.ext) q
section
variable {X : Cx} {a : Expr} {ba : BT} {pos : Pos}
theorem b_makeL {j k : Nat} {sp : ISp} {p : Pos} (B : BnC X.K X.mg) (c : MakeB X.prog X.w X.K X.mg X.base j sp) (hj : j + 1 ≤ k) (hr : Room k X.A) (hg : Gl X "Bench") (ha : PB X a ba)
    (he : starEach [a] X.env = (false, eval a X.env) :: starEach [] X.env := by rfl) (hpl : (backTo pos (starEach [] X.env)).any (·.1) = false := by rfl) : PB X (.Call (.Name "Bench" p) [a] [] pos) (bMake sp ba) := b_make B c (hr.mono hj) hg ha he hpl
end
theorem _root_.L2.Room.un1 {k : Nat} {A : Around} (r : Room k A) : A.units + 1 < cLine := by have := r.units; omega
end W

/-! GI: in, of data of any depth. -/
namespace W
open PySem L2
section
variable {X : Cx}
def fInD : F2 := fun d e Q => ∃ es, e = .lst es ∧ d.fine 9 = true ∧ (D.lst es).fine 9 = true ∧ Q (.sh (.bl (es.any fun z => deq z d)))
theorem o_inD (hu : X.A.units + 65 < cLine) : OpD X (compareOp .In) fInD := ⟨_, op_inD hu, fun S H v w d e Q Qd hS h1 h2 hf hQ => by
  obtain ⟨es, rfl, f1, f2, hq⟩ := hf
  refine ⟨d.py, D.pys es, at_dp (h1.mono hS) f1, at_dp (h2.mono hS) f2, fine_shaped f1, fine_shaped f2, ?_⟩
  have e : ((D.pys es).any fun z => PyData.eqv z d.py) = es.any fun z => deq z d := by
    rw [pys_map, List.any_map]
    rfl
  rw [e]
  exact hQ _ S H _ (.sh hS (.bl _)) hq⟩
theorem _root_.L2.Room.un65 {k : Nat} {A : Around} (r : Room k A) : A.units + 65 < cLine := by have := r.un; omega
end
section
variable {ks : List (List Int)}
theorem ty_d : (D.dt ks).ty ≠ "" := by show "dict" ≠ ""; decide
theorem tyN_d : ((D.dt ks).ty ≠ "") = True := eq_true ty_d
theorem isT_d_int : isT (D.dt ks).ty "int" = false := by show isT "dict" "int" = _; decide
theorem isT_d_bool : isT (D.dt ks).ty "bool" = false := by show isT "dict" "bool" = _; decide
theorem isT_d_list : isT (D.dt ks).ty "list" = false := by show isT "dict" "list" = _; decide
theorem isT_d_tuple : isT (D.dt ks).ty "tuple" = false := by show isT "dict" "tuple" = _; decide
theorem isT_d_str : isT (D.dt ks).ty "str" = false := by show isT "dict" "str" = _; decide
theorem d_bn {a : Addr} {n : Int} {l p : List D} : (T.bn a n l p).d = .bn n l p := rfl
theorem d_dt : (T.dt ks).d = .dt ks := rfl
theorem shO_bn {a : Addr} {n : Int} {l p : List D} : shO (some (T.bn a n l p)) = some (.sh (.bn n l p)) := rfl
theorem isBn_bn {n : Int} {l p : List D} : (D.bn n l p).isBn = true := rfl
theorem fSl_t {ds : List D} {lo hi : Option Int} {Q : T → Prop} : fSl (.tup ds) lo hi Q = (¬ (HT.sIx ds.length 0 lo = 0 ∧ HT.sIx ds.length ds.length hi = ds.length) ∧ Q (.sh (.tup (cutD ds lo hi)))) := rfl
theorem cleans_tups : ∀ rows : List (List Int), D.cleans (rows.map tupI) = true := fun rows => cleans_map fun r _ => clean_ints r
end
end W

/-! GJ: except c as n, the exception kept behind its suite (own work over HandS.Exc). -/
namespace W
open PySem PySem.Spec PyProof.Rows L2
theorem exV_ok {P : Program} {w : PySem.World} {H : Hp} {h : Heap} {a : Addr} {cls : Value} {d : Option Addr} {oe : Obj} {vs : Array Value} (e : h.get? a = some oe) (z : Zc cls d oe) (f : oe.data = .fields vs) : ObjOk P w H h a (ExV cls d a) :=
  ⟨⟨oe, vs, e, z, f⟩, ⟨oe, e⟩, fun _ _ ⟨o, us, q1, q2, q3⟩ k => ⟨o, us, k o q1, q2, q3⟩⟩
section
variable {X : Cx} {pins : List (Addr × Obj)} {σ : L2.St} {H : Hp} {s : Shared} {a : Addr} {o : HO}
/-- a thing that stands in the heap, new since the entry, is tracked from here on -/
theorem _root_.L2.Inv.track (I : Inv X pins σ H s) (hn : H a = none) (h0 : X.s_0.heap.get? a = none) (nL : X.env.locals ≠ a) (nC : ∀ x c, X.env.cells.lookup x = some c → c ≠ a) (nP : ∀ p ∈ X.pn ++ pins, p.1 ≠ a)
    (new : ObjOk X.prog X.w (upd H a o) s.heap a o) : Inv X pins σ (upd H a o) s where
  ok := I.ok
  os := I.os
  bare := I.bare
  base := {
    keep := I.base.keep
    slot := I.base.slot
    free := fun b u e n hx => by
      rw [upd_ne fun z => by subst z; rw [h0] at e; cases e]
      exact I.base.free b u e n hx
    there := I.base.there
    tups := fun b xs e => by
      have q := I.base.tups b xs e
      rw [upd_ne (ne_of_none q hn)]
      exact q
    frzs := fun b u v e => by
      have q := I.base.frzs b u v e
      rw [upd_ne (ne_of_none q hn)]
      exact q
    tbls := fun b ps e => by
      obtain ⟨more, q⟩ := I.base.tbls b ps e
      exact ⟨more, by rw [upd_ne (ne_of_none q hn)]; exact q⟩ }
  loc := I.loc
  cell := I.cell
  free := by rw [upd_ne nL]; exact I.free
  freeC := fun x c e => by rw [upd_ne (nC x c e)]; exact I.freeC x c e
  pin := fun p m => by
    obtain ⟨p1, p2, p3⟩ := I.pin p m
    exact ⟨p1, by rw [upd_ne (nP p m)]; exact p2, p3⟩
  hok := fun b u e => by
    by_cases hb : b = a
    · subst hb
      rw [upd_same] at e
      cases e
      exact new
    · rw [upd_ne hb] at e
      exact (I.hok b u e).stay (fun _ _ _ q => q) (fun c q => by rw [upd_ne (ne_of_none q hn)]; exact q) fun c xs q => by rw [upd_ne (ne_of_none q hn)]; exact q
  len := I.len
/-- into a suite whose exception is tracked, and out of it -/
theorem _root_.L2.Inv.toSu (I : Inv X pins σ H s) (b : Addr) : Inv (X.suite b (X.pn ++ pins)) [] σ H s :=
  ⟨I.ok.suite _ _, I.os, I.bare, I.base, I.loc, I.cell, I.free, I.freeC, fun p m => I.pin p (List.append_nil (X.pn ++ pins) ▸ m), I.hok, I.len⟩
theorem _root_.L2.Inv.ofSu {b : Addr} {ps : List (Addr × Obj)} (I : Inv (X.suite b (X.pn ++ pins)) ps σ H s) (ok : X.Ok) : Inv X pins σ H s :=
  ⟨ok, I.os, I.bare, I.base, I.loc, I.cell, I.free, I.freeC, fun p m => I.pin p (List.mem_append_left ps m), I.hok, I.len⟩
end
/-- what 'except x as n' wishes of an exception of the body, n in slot i; the exception stays tracked -/
def wAsT (K : PySem.W.Frag) (c : Value) (i : Nat) (ts : TS) (Wo : WX) (D : Ends) : WX := fun cls d σ H => ∃ b, PySem.W.exmOne K cls c = some b ∧
  (b = true → ∀ a, H a = none → ts ⟨fun τ G => D.nx (τ.set i none) G, D.rt, fun τ G => D.bk (τ.set i none) G, fun τ G => D.ct (τ.set i none) G⟩ (σ.set i (some (.ref a))) (upd H a (ExV cls d a))) ∧ (b = false → Wo cls d σ H)
section
variable {X : Cx} {x n : Str} {c : Value} {i : Nat} {body rest : List Stmt} {st : Stmt} {np pos pos2 : Pos} {tb : WX → TS} {ts : TS} {Wo : WX}
/-- what the catch does -/
theorem caught {pins : List (Addr × Obj)} {σ : L2.St} {H : Hp} {D : Ends} {s' sI : Shared} {a : Addr} {B : Heap} {cls : Value} {d : Option Addr} (hs : X.stack = X.env :: X.outer) (hf : X.env.frame = some X.env.locals) (hex : X.ex = []) (hN : X.N.Nodup) (hi : X.N[i]? = some n) (hln : X.env.kindOf n = some .local)
    (hc : Names X x c) (tk : Takes X Wo) (hsu : ∀ (a : Addr) (pn : List (Addr × Obj)), PSs (X.suite a pn) (st :: rest) ts) (J : Inv X pins σ H sI) (nb : ∀ b o, sI.heap.get? b = some o → b ∉ frs X.stack → B.get? b = some o) (up : sI.heap.UpToSlots s'.heap)
    (sky : Sky B X.stack a (Zc cls d) X.env.locals s'.heap) (na : H a = none) (os : s'.os = sI.os) (ag : AllBare s'.gens) (w : wAsT X.K c i ts Wo D cls d σ H) :
    wpAny (model X.prog X.w) X.A (noteFrame (.ref a) X.env) (fun _ s2 => wpAny (model X.prog X.w) X.A (setFlight (.ref a) none) (fun _ s3 =>
      wpAny (model X.prog X.w) X.A (handleBy (.ref a) X.env [.ExceptHandler (some (.Name x np)) (some n) (st :: rest) pos2]) (SP X pins D) X.xe s3) X.xe s2) X.xe s' := by
  have ok := J.ok
  obtain ⟨b, hb1, hyes, hno⟩ := w
  have fr : X.A.frames = some (X.env :: X.outer) := ok.frames.trans (congrArg some hs)
  refine Sky.land Zc.steady fr hf (hs ▸ sky) fun h3 fly up3 => ?_
  have J3 : Inv X pins σ H { s' with heap := h3 } := J.landed nb fly.1 (up.trans up3) os ag
  obtain ⟨oe, vs, he, hz, hd⟩ := fly.there
  -- where a is not
  have offStack : a ∉ frs (X.env :: X.outer) := fun m => by
    obtain ⟨_, o2, q1, q2⟩ := fly.2.2.1.mem m
    rw [he] at q1
    cases q1
    exact q2 _ hd
  have offL : a ≠ X.env.locals := fun z => offStack (List.mem_filterMap.mpr ⟨X.env, List.mem_cons_self, by rw [hf, z]⟩)
  have offF : a ∉ X.fs := fun m => by
    obtain ⟨e, h1, h2⟩ := List.mem_filterMap.mp m
    exact offStack (List.mem_filterMap.mpr ⟨e, List.mem_cons_of_mem _ h1, h2⟩)
  have noB : B.get? a = none := fly.2.1
  have noI : sI.heap.get? a = none := by
    cases q : sI.heap.get? a with
    | none => rfl
    | some u =>
      have := nb a u q (by rw [hs]; exact offStack)
      rw [noB] at this
      cases this
  have no0 : X.s_0.heap.get? a = none := by
    cases q : X.s_0.heap.get? a with
    | none => rfl
    | some u =>
      obtain ⟨u2, q2⟩ := J.base.there a u q (by rw [hex]; exact List.not_mem_nil)
      rw [noI] at q2
      cases q2
  have Su := J3.suite he hd na offL offF
  refine wpAny_handleBy_cons (codeAny_handlers_test ?_) (fun z => by cases z)
  have kind : PySem.W.Looks (model X.prog X.w) h3 (typeOf (.ref a)) cls := fun _ _ _ _ k q => wpAny_typeOf_ref (k _ _ he) (hz.1 ▸ q)
  have asks := PySem.W.exm_one (M := model X.prog X.w) J3.kIn kind hb1
  have look : ∀ {Q : Value → Shared → Prop} {E : Value → Shared → Prop}, Q c { s' with heap := h3 } → wpAny (model X.prog X.w) (X.A.mark (some (.ref a))) (eval (.Name x np) X.env) Q E { s' with heap := h3 } := fun {Q E} q => by
    obtain ⟨g1, g2, g3⟩ := hc
    rcases g3 with g3 | ⟨g3, g4, g5⟩
    · exact ld_glob (X := X.suite a ((a, oe) :: (X.pn ++ pins))) Su g1 g3 q g2
    · exact ld_blt (X := X.suite a ((a, oe) :: (X.pn ++ pins))) Su g1 g3 g4 q g5 g2
  refine look (asks.here ?_)
  cases b with
  | false =>
    show wpAny _ X.A (handleBy (.ref a) X.env []) _ _ _
    refine wpAny_handleBy_nil ?_
    have goesOn : wpAny (model X.prog X.w) X.A (setFlight (.ref a) X.env.frame) (fun _ s4 => wpAny (model X.prog X.w) X.A (throw (.ref a) : Sem Flow) (SP X pins D) X.xe s4) X.xe { s' with heap := h3 } := by
      rw [hf]
      exact HandSPX.setFlight_upZ fly fun h4 held up4 => wpAny_throw (tk _ _ ⟨a, B, sI, pins, σ, H, cls, d, rfl, J, nb, (up.trans up3).trans up4, .inr (.inr (by rw [hs]; exact held)), na, os, ag, hno rfl⟩)
    obtain ⟨_, _, _, o2, us, T, oT, ts2, q1, q2, q3, q4, _⟩ := id fly
    unfold PySem.passOn
    refine wpAny_bind (wpAny_field q1 q3 q4 ?_)
    rw [if_neg (by simp : ¬ ((Value.ref T == Value.none) = true))]
    first
      | exact wpAny_bind (wpAny_pure (wpAny_bind goesOn))
      | exact wpAny_bind goesOn
  | true =>
    refine codeAny_handlers_suite_as ?_
    refine HandSPX.lands_againZ fly fun h4 fly4 up4 => ?_
    have J4 : Inv X pins σ H { s' with heap := h4 } := J.landed nb fly4.1 ((up.trans up3).trans up4) os ag
    obtain ⟨o4, vs4, he4, hz4, hd4⟩ := fly4.there
    have J5 : Inv X pins σ (upd H a (ExV cls d a)) { s' with heap := h4 } := J4.track na no0 (Ne.symm offL) (fun y k e z => by
      obtain ⟨v, u, q1, q2⟩ := J4.cell y k e
      rw [z] at q1
      have q1 : h4.get? a = some u := q1
      rw [he4] at q1
      cases q1
      rw [hd4] at q2
      cases q2) (fun p m z => by
      have q := (J.pin p m).1
      rw [z, noI] at q
      cases q) (exV_ok he4 hz4 hd4)
    refine store_ok (X := X.suite a (X.pn ++ pins)) (v := .ref a) (J5.toSu a) hN hi (.inl hln) rfl (fun s5 S5 => ?_) (.inr hln)
    refine wpAny_mono ((hsu a (X.pn ++ pins)).run [] s5 _ _ _ S5 (hyes rfl a na)) (fun f s6 sp => ?_) fun _ _ z => z.elim
    have ends : ∀ {τ : L2.St} {G : Hp} {Q : Shared → Prop}, Inv (X.suite a (X.pn ++ pins)) [] τ G s6 → (∀ s7, Inv X pins (τ.set i none) G s7 → Q s7) → wpAny (model X.prog X.w) X.A (do bindName X.env n .none; unbindBehindTheSuite X.env n pos2) (fun _ s7 => Q s7) X.xe s6 :=
      fun {τ G Q} S6 q => gone_ok (S6.ofSu ok) hN hi hln q
    cases f with
    | ret u =>
      obtain ⟨v, τ, G, S6, r, q⟩ := sp
      exact ends S6 fun s7 J7 => ⟨_, _, _, J7, r, q⟩
    | next =>
      obtain ⟨τ, G, S6, q⟩ := sp
      exact ends S6 fun s7 J7 => ⟨_, _, J7, q⟩
    | brk =>
      obtain ⟨τ, G, S6, q⟩ := sp
      exact ends S6 fun s7 J7 => ⟨_, _, J7, q⟩
    | cont =>
      obtain ⟨τ, G, S6, q⟩ := sp
      exact ends S6 fun s7 J7 => ⟨_, _, J7, q⟩
theorem ps_tryT (hs : X.stack = X.env :: X.outer) (hf : X.env.frame = some X.env.locals) (hex : X.ex = []) (hN : X.N.Nodup) (hi : X.N[i]? = some n) (hln : X.env.kindOf n = some .local) (hc : Names X x c) (tk : Takes X Wo)
    (hb : ∀ (W : WX) (pn : List (Addr × Obj)) (xe : Value → Shared → Prop), Takes (X.tr pn xe) W → PassesOwn (model X.prog X.w) X.A X.env xe → PSs (X.tr pn xe) body (tb W)) (hsu : ∀ (a : Addr) (pn : List (Addr × Obj)), PSs (X.suite a pn) (st :: rest) ts) :
    PS X (.Try body [.ExceptHandler (some (.Name x np)) (some n) (st :: rest) pos2] [] [] pos) (fun D σ H => tb (wAsT X.K c i ts Wo D) D σ H) := by
  refine ⟨fun pins s σ H D I h => wpAny_Try_except ?_⟩
  have run := (hb (wAsT X.K c i ts Wo D) (X.pn ++ pins) (fun e s1 => wpAny (model X.prog X.w) X.A (noteFrame e X.env) (fun _ s2 => wpAny (model X.prog X.w) X.A (setFlight e none) (fun _ s3 =>
    wpAny (model X.prog X.w) X.A (handleBy e X.env [.ExceptHandler (some (.Name x np)) (some n) (st :: rest) pos2]) (SP X pins D) X.xe s3) X.xe s2) X.xe s1) (fun u s' xx => ?_) PassesOwn.looking).run [] s σ H D (I.toTry _) h
  · refine wpAny_mono run (fun f s1 sp => ?_) fun _ _ z => z
    cases f with
    | ret u =>
      obtain ⟨v, τ, G, J, r, q⟩ := sp
      exact ⟨v, τ, G, J.ofTry I.ok, r, q⟩
    | next =>
      obtain ⟨τ, G, J, q⟩ := sp
      exact wpAny_execs_nil ⟨τ, G, J.ofTry I.ok, q⟩
    | brk =>
      obtain ⟨τ, G, J, q⟩ := sp
      exact ⟨τ, G, J.ofTry I.ok, q⟩
    | cont =>
      obtain ⟨τ, G, J, q⟩ := sp
      exact ⟨τ, G, J.ofTry I.ok, q⟩
  · obtain ⟨a, B, sI, ps, τ, G, cls, d, rfl, J, nb, up, sky, na, os, ag, w⟩ := xx
    exact caught hs hf hex hN hi hln hc tk hsu (J.ofTry I.ok) nb up sky na os ag w
end
end W

/-! GK: a comprehension whose element may raise (own work over HandS.Comp and HandS.Exc). -/
namespace W
open PySem PySem.Spec PyProof.Rows L2
theorem note_same {x : Value} {e1 e2 : PySem.Env} (h : e1.frame = e2.frame) : noteFrame x e1 = noteFrame x e2 := by
  unfold noteFrame PySem.frameOf
  rw [h]
theorem pass_same {x : Value} {e1 e2 : PySem.Env} {what : String} (h : e1.frame = e2.frame) : (PySem.passOn what x e1 : Sem Value) = PySem.passOn what x e2 := by
  unfold PySem.passOn
  rw [h]
/-- what is due behind the block, its frame told -/
def postE (M : Model) (A : Around) (E : Value → Shared → Prop) (Q : Value → Shared → Prop) (acc : Value) (C : Addr) (fr : Option Addr) (r : Result) (s' : Shared) : Prop := ∃ m, s'.heap.Ns C m ∧ match r with
  | .ok _ => ∀ h', Heap.SameBut C s'.heap h' → Q acc { s' with heap := h' }
  | .error x => ∀ h', Heap.SameBut C s'.heap h' → ∀ ce : PySem.Env, ce.frame = fr → wpAny M A (PySem.passOn "comprehension.variables-let-go" x ce : Sem Value) (fun _ _ => False) E { s' with heap := h' }
theorem compE {M : Model} {A : Around} {E : Value → Shared → Prop} {s : Shared} {env : PySem.Env} {e : Expr} {scope : Scope} {pos : Pos} {newAcc first : Sem Value} {g : Comprehension} {gs : List Comprehension} {cl : List (Str × Addr)} {Q : Value → Shared → Prop}
    (hcl : clausesOf e = g :: gs) (hs : ∀ x, foldedSetIterable g.iter env x = pure x) (hclos : closureFor scope env = pure cl) (hkind : scope.kind = .function) (hnames : ∀ x ∈ scope.names, x.2 = .local → scope.names.lookup x.1 = some .local)
    (h : wpAny M A first (fun x s1 => wpAny M A (pyIter x) (fun it s2 => wpAny M A newAcc (fun acc s3 => wpAny M A (newFunctionEnv scope env.globals cl [] env.qual none .none (some env)) (fun ce s4 => ce.frame = env.frame ∧
      codeAny M A (.compStart e 0 it acc { ce with scope := relabel scope env }) (postE M A E Q acc ce.locals env.frame) s4) E s3) E s2) E s1) E s) : wpAny M A (comprehension e scope env pos newAcc false first none) Q E s := by
  unfold comprehension
  rw [hclos, hcl]
  refine wpAny_bind (wpAny_mono h (fun x s1 h1 => ?_) fun _ _ z => z)
  refine wpAny_bind (wpAny_standAt (wpAny_bind (wpAny_of_eq (hs x) (wpAny_bind (wpAny_holding (wpAny_mono h1 (fun it s2 h2 => ?_) fun _ _ z => z))))))
  refine wpAny_standIf (wpAny_bind (wpAny_mono h2 (fun acc s3 h3 => ?_) fun _ _ z => z))
  refine wpAny_bind (wpAny_pure (wpAny_bind (wpAny_mono h3 (fun ce s4 h4 => ?_) fun _ _ z => z)))
  obtain ⟨fr, h4⟩ := h4
  dsimp only
  have vars : ∀ y ∈ (scope.names.filter fun y => (y.2 == .local || y.2 == .cell) && y.1 != (".0" : Str)).reverse, y.2 = .local → Env.kindOf { ce with scope := relabel scope env } y.1 = some .local := fun y m l =>
    lookup_relabel_local (hnames y (List.mem_filter.mp (List.mem_reverse.mp m)).1 l)
  refine wpAny_holding (wpAny_bind (wpAny_attempt (wpAny_holding (wpAny_run (codeAny_mono h4 fun r s5 ⟨m, hn, hr⟩ => ?_)))))
  cases r with
  | ok f => exact wpAny_bind (wpAny_holding (wpAny_comp_letGo (cenv := { ce with scope := relabel scope env }) hkind _ s5 m vars hn fun h' m' _ sb => wpAny_pure (hr h' sb)))
  | error x => exact wpAny_bind (wpAny_holding (wpAny_comp_letGo (cenv := { ce with scope := relabel scope env }) hkind _ s5 m vars hn fun h' m' _ sb => wpAny_mono (hr h' sb _ fr) (fun _ _ z => z.elim) fun _ _ z => z))
theorem frames_but {base B h h' : Heap} : ∀ {l : List PySem.Env}, h.FunFrames base l → (∀ L ∈ frs l, B.get? L = none) → (∀ L ∈ frs l, h'.get? L = h.get? L) → h'.FunFrames B l
  | [], _, _, _ => trivial
  | env :: l, ⟨k, ⟨L, o, hf, _, ho, hd⟩, r⟩, n, same => by
    have mem : L ∈ frs (env :: l) := List.mem_filterMap.mpr ⟨env, List.mem_cons_self, hf⟩
    have sub : ∀ b ∈ frs l, b ∈ frs (env :: l) := fun b m => by
      obtain ⟨e, h1, h2⟩ := List.mem_filterMap.mp m
      exact List.mem_filterMap.mpr ⟨e, List.mem_cons_of_mem _ h1, h2⟩
    exact ⟨k, ⟨L, o, hf, n L mem, (same L mem).trans ho, hd⟩, frames_but r (fun b m => n b (sub b m)) fun b m => same b (sub b m)⟩
/-- an exception in flight out of the block; E: what is wished of it -/
def XB (Y : Cx) (E : XK) (u : Value) (s' : Shared) : Prop := ∃ (a : Addr) (B : Heap) (sI : Shared) (ps : List (Addr × Obj)) (τ : L2.St) (G : Hp) (cls : Value) (d : Option Addr), u = .ref a ∧ Inv Y ps τ G sI ∧
  (∀ b o, sI.heap.get? b = some o → b ∉ frs Y.stack → B.get? b = some o) ∧ sI.heap.UpToSlots s'.heap ∧ HandSPX.FlyingZ B Y.stack a (Zc cls d) s'.heap ∧ G a = none ∧ s'.os = sI.os ∧ AllBare s'.gens ∧ E cls d G
theorem passB {Y : Cx} {E : XK} {τ : L2.St} : PassesAt (L2.CX Y.prog Y.w) (Y.wish (XB Y E)) τ E := fun ps G s e s' I c => by
  have x := XE.of_call (X := Y.wish (XB Y E)) (W := fun cls d _ H => E cls d H) I (fun _ _ _ h => h) c
  obtain ⟨a, B, sI, ps', τ', G', cls, d, rfl, J, nb, up, sky, na, os, ag, w⟩ := x
  obtain ⟨a2, B2, _, cls2, d2, e2, fl2, _⟩ := c
  cases e2
  obtain ⟨_, _, _, o2, vs2, T2, oT2, ts2, q1, _, q3, q4, _, _, q7, q8, q9⟩ := fl2
  refine ⟨a, B, sI, ps', τ', G', cls, d, rfl, J.unwish, nb, up, ?_, na, os, ag, w⟩
  rcases sky with ⟨_, _, _, o1, vs1, p1, _, p3, p4⟩ | h | ⟨_, _, _, o1, vs1, T1, oT1, ts1, p1, _, p3, p4, _, _, p7, p8, p9⟩
  · rw [q1] at p1
    cases p1
    rw [q3] at p3
    cases p3
    rw [q4] at p4
    cases p4
  · exact h
  · rw [q1] at p1
    cases p1
    rw [q3] at p3
    cases p3
    rw [q4] at p4
    cases p4
    rw [q7] at p7
    cases p7
    rw [q8] at p8
    cases p8
    rw [q9] at p9
    cases p9
section
variable {X : Cx} {pins : List (Addr × Obj)} {σ : L2.St} {H : Hp} {s3 : Shared} {scope : Scope} {ce : PySem.Env} {fp : List Addr} {W : WX} {Qf : Value → Shared → Prop} {acc : Value}
/-- out of the block, through the frame -/
theorem leaveB {E1 : Value → Shared → Prop} {u : Value} {s' : Shared} (hs : X.stack = X.env :: X.outer) (hf : X.env.frame = some X.env.locals) (tk : Takes X W) (I3 : Inv X pins σ H s3) (cL : ce.locals = s3.heap.objs.size) (cF : ce.frame = X.env.frame)
    (f3 : ∀ b ∈ fp, FpOk X pins H b) (x : XB (X.blk s3 H scope ce fp) (fun cls d G => W cls d σ G) u s') :
    wpAny (model X.prog X.w) X.A (noteFrame u ce) (fun _ s2 => postE (model X.prog X.w) X.A X.xe Qf acc s3.heap.objs.size X.env.frame (.error u) s2) E1 s' := by
  obtain ⟨a, B, sI, ps, τ, G, cls, d, rfl, J, nb, up, fl, na, os, ag, w⟩ := x
  have nb : ∀ b o, sI.heap.get? b = some o → b ∉ frs X.stack → B.get? b = some o := nb
  have fl : HandSPX.FlyingZ B X.stack a (Zc cls d) s'.heap := fl
  have fr : X.A.frames = some (X.env :: X.outer) := I3.ok.frames.trans (congrArg some hs)
  rw [note_same cF]
  refine HandSPX.looks_onZ Zc.steady fr hf (hs ▸ fl) fun h2 held up2 => ?_
  generalize hC : s3.heap.objs.size = C at cL
  have J1 : Inv X pins σ G sI := I3.call' (ch := fp) J.os J.base J.hok J.bare fun b m => ⟨(f3 b m).2.2.2.1, (f3 b m).2.1, (f3 b m).2.2.2.2.1, (f3 b m).2.2.2.2.2⟩
  have nC : G C = none := cL ▸ J.free
  obtain ⟨c0, c1, c2, c3, c4, c5⟩ := I3.fpOk (b := C) (H' := G) (Nat.le_of_eq hC) nC
  obtain ⟨m, hn, _⟩ := J.loc
  have hn : sI.heap.Ns C m := by rw [← cL]; exact hn
  obtain ⟨oC, es, ep, gC, rC⟩ := hn
  have offC : C ∉ frs X.stack := fun z => by
    rw [hs] at z
    obtain ⟨e, h1, h5⟩ := List.mem_filterMap.mp z
    rcases List.mem_cons.mp h1 with rfl | h1
    · rw [hf] at h5
      exact c1 (Option.some.inj h5).symm
    · exact c2 (List.mem_filterMap.mpr ⟨e, h1, h5⟩)
  have bC := nb C oC gC offC
  obtain ⟨k1, k2, k3, o4, vs, T, oT, ts, k5, k6, k7, k8, k9, k10, k11, k12, k13⟩ := held
  have aC : a ≠ C := fun z => by rw [z, bC] at k2; cases k2
  have tC : T ≠ C := fun z => by rw [z, bC] at k9; cases k9
  refine ⟨m, ⟨oC, es, ep, k1 C oC bC, rC⟩, fun h3 sb ce2 fr2 => ?_⟩
  rw [pass_same (e2 := X.env) fr2]
  obtain ⟨B2, b1, b2⟩ := restrict B fun b => decide (b ≠ C)
  obtain ⟨G2, g1, g2⟩ := restrict sI.heap fun b => decide (b ≠ C)
  have fromB : ∀ b o, B2.get? b = some o → b ≠ C ∧ B.get? b = some o := fun b o e => by
    by_cases z : b = C
    · rw [z, b2 C (by simp)] at e; cases e
    · rw [b1 b (decide_eq_true z)] at e; exact ⟨z, e⟩
  have fromG : ∀ b o, G2.get? b = some o → b ≠ C ∧ sI.heap.get? b = some o := fun b o e => by
    by_cases z : b = C
    · rw [z, g2 C (by simp)] at e; cases e
    · rw [g1 b (decide_eq_true z)] at e; exact ⟨z, e⟩
  have noneB : ∀ b, B.get? b = none → B2.get? b = none := fun b e => by
    cases q : B2.get? b with
    | none => rfl
    | some o =>
      have := (fromB b o q).2
      rw [e] at this
      cases this
  have J2 : Inv X pins σ G { sI with heap := G2 } := J1.turned (t' := sI.toks) (fun b o z e => by rw [g1 b (decide_eq_true z)]; exact e) nC c1 c3 c4 c5
  have st : B2.StaysIn h3 := fun b o e => (sb.2 b (fromB b o e).1).trans (k1 b o (fromB b o e).2)
  have ff : h3.FunFrames B2 (X.env :: X.outer) := frames_but k3 (fun L z => by
    obtain ⟨q1, _⟩ := k3.mem z
    exact noneB L q1) fun L z => sb.2 L fun e => offC (by rw [hs, ← e]; exact z)
  have tr : HandSPX.TracedZ h3 B2 a (Zc cls d) (rawInt X.env.locals) := ⟨o4, vs, T, oT, ts, (sb.2 a aC).trans k5, k6, k7, k8, noneB T k9, k10, (sb.2 T tC).trans k11, k12, k13⟩
  unfold PySem.passOn
  refine wpAny_bind (wpAny_field ((sb.2 a aC).trans k5) k7 k8 ?_)
  rw [if_neg (by simp : ¬ ((Value.ref T == Value.none) = true))]
  have fin : wpAny (model X.prog X.w) X.A (setFlight (.ref a) X.env.frame) (fun _ s4 => wpAny (model X.prog X.w) X.A (throw (.ref a) : Sem Value) (fun _ _ => False) X.xe s4) X.xe { s' with heap := h3 } := by
    rw [hf]
    refine HandSPX.setFlight_anyZ st ff tr fun h4 q1 q2 q3 up4 => wpAny_throw (tk _ _ ⟨a, B2, { sI with heap := G2 }, pins, σ, G, cls, d, rfl, J2, fun b o e z => ?_, fun b o e nf => ?_, .inr (.inr ?_), na, os, ag, w⟩)
    · rw [b1 b (decide_eq_true (fromG b o e).1)]
      exact nb b o (fromG b o e).2 z
    · obtain ⟨z, e⟩ := fromG b o e
      obtain ⟨sl1, e1⟩ := up b o e nf
      obtain ⟨sl2, e2⟩ := up2 b _ e1 nf
      obtain ⟨sl4, e4⟩ := up4 b _ ((sb.2 b z).trans e2) nf
      exact ⟨sl4, e4⟩
    · rw [hs]
      exact ⟨q1, noneB a k2, q2, q3⟩
  first
    | exact wpAny_bind (wpAny_pure (wpAny_bind fin))
    | exact wpAny_bind fin
end
end W

/-! GL: [f(..) for x in xs] where f may raise. -/
namespace W
open PySem PySem.Spec PyProof.Rows L2
section
variable {X : Cx}
theorem lcX_core {pins : List (Addr × Obj)} {s : Shared} {σ : L2.St} {H : Hp} {Q : VK} {elt tg iter : Expr} {ifs : List Expr} {scope : Scope} {own : List (Str × Nat)} {pos pos' : Pos} {wi : TI} {g : TG} {tt : TT} {te : XK → TE} {W : WX} {Qf : Value → Shared → Prop}
    (hc : X.calm = true) (hN : X.N.Nodup) (hst : X.stack = X.env :: X.outer) (hfr : X.env.frame = some X.env.locals) (tk : Takes X W) (I : Inv X pins σ H s) (hi : PI X tg iter wi) (ok : BlkOk X.N X.env.scope scope own)
    (hg : ∀ (s : Shared) (H : Hp) (C : Addr) (cl : List (Str × Addr)) (fp : List Addr), PG (X.blk s H scope (compEnvC scope cl C X.env) fp) tg g) (ht : ∀ (s : Shared) (H : Hp) (C : Addr) (cl : List (Str × Addr)) (fp : List Addr), PTs (X.blk s H scope (compEnvC scope cl C X.env) fp) ifs tt)
    (he : ∀ (s : Shared) (H : Hp) (C : Addr) (cl : List (Str × Addr)) (fp : List Addr) (E : XK) (xe : Value → Shared → Prop), (∀ τ, PassesAt (L2.CX X.prog X.w) ((X.blk s H scope (compEnvC scope cl C X.env) fp).wish xe) τ E) → PE ((X.blk s H scope (compEnvC scope cl C X.env) fp).wish xe) elt (te E))
    (hs : ∀ x, foldedSetIterable iter X.env x = pure x) (h : tLc wi g tt (te fun cls d G => W cls d σ G) (own.map (·.2)) σ H Q)
    (hQ : ∀ D C s' m H', Inv X pins σ H' s' → Q (.ref D) H' → s'.heap.Ns C m → FpOk X pins H' C → ∀ h', Heap.SameBut C s'.heap h' → Qf (.ref D) { s' with heap := h' }) :
    wpAny (model X.prog X.w) X.A (comprehension (.ListComp elt [⟨tg, iter, ifs, 0⟩] scope pos) scope X.env pos' (newList []) false (eval iter X.env) none) Qf X.xe s := by
  have cells : ∀ y ∈ scope.names, y.2 = .free → ∃ c, X.env.cells.lookup y.1 = some c := fun y m e => (ok.free y m e).elim (fun k => I.ok.has _ (.inl k)) fun k => I.ok.has _ (.inr k)
  refine compE rfl hs (closure_ok cells) ok.kind (fun y m e => by rw [ok.uniq y m, e]) (thn (hi.run pins s σ H _ I h) fun xv s1 hx => thn hx fun itv s2 h2 => ?_)
  obtain ⟨it, fp, tn, J, H2, rfl, I2, T, st2, f2, q⟩ := h2
  refine wpAny_newObj_type (newEnv_comp ⟨rfl, ?_⟩) (by show 0 ≤ sizeLine; decide)
  generalize hD : s2.heap.objs.size = D
  obtain ⟨Wt, ⟨m0, w0⟩, turn⟩ := q D (I2.hok.fresh (Nat.le_of_eq hD))
  generalize e3 : ({ s2 with heap := s2.heap.push { cls := .type "list", data := .seq ([] : List Value).toArray } } : Shared) = s3
  have h3 : s3.heap = s2.heap.push { cls := .type "list", data := .seq ([] : List Value).toArray } := by rw [← e3]
  have I3 : Inv X pins σ (upd H2 D (.lst [])) s3 := by
    rw [← e3]
    refine I2.laid (t' := s2.toks) (fun b o e => Heap.get?_push_of_some _ e) (Nat.le_of_eq hD) ⟨Nat.zero_le _, [], 0, .nil, ?_⟩
    rw [← hD]
    exact Heap.get?_push_size _ rfl
  have below : ∀ b ∈ fp, b < s2.heap.objs.size := fun b m => by
    obtain ⟨o, e, _⟩ := T.obj _ _ st2 b m
    exact Heap.lt_size e
  have f3 : ∀ b ∈ fp, FpOk X pins (upd H2 D (.lst [])) b ∧ b < s3.heap.objs.size := fun b m => by
    have lt := below b m
    refine ⟨⟨?_, (f2 b m).2⟩, by rw [h3, Heap.size_push]; exact Nat.lt_succ_of_lt lt⟩
    rw [upd_ne (hD ▸ Nat.ne_of_lt lt)]
    exact (f2 b m).1
  have st3 : tn 0 s3.heap := T.keep _ _ _ st2 fun b _ o e => by rw [h3]; exact Heap.get?_push_of_some _ e
  have I4 := block_start I3 ok hN f3
  have pg := hg s3 (upd H2 D (.lst [])) s3.heap.objs.size (cellsFrom (s3.heap.objs.size + 1) scope.names (cloFrom X.env.cells scope.names [])) fp
  have pt := ht s3 (upd H2 D (.lst [])) s3.heap.objs.size (cellsFrom (s3.heap.objs.size + 1) scope.names (cloFrom X.env.cells scope.names [])) fp
  have pe := he s3 (upd H2 D (.lst [])) s3.heap.objs.size (cellsFrom (s3.heap.objs.size + 1) scope.names (cloFrom X.env.cells scope.names [])) fp
  have goal : ∀ ce, ce = compEnvC scope (cellsFrom (s3.heap.objs.size + 1) scope.names (cloFrom X.env.cells scope.names [])) s3.heap.objs.size X.env →
      codeAny (model X.prog X.w) X.A (.compStart (.ListComp elt [⟨tg, iter, ifs, 0⟩] scope pos) 0 (.ref it) (.ref D) ce) (postE (model X.prog X.w) X.A X.xe Qf (.ref D) s3.heap.objs.size X.env.frame) { s3 with heap := pushCells (s3.heap.push { cls := .type "dict", data := .dict #[] }) scope.names } := by
    intro ce hce
    rw [← hce] at I4 pg pt pe
    have cL : ce.locals = s3.heap.objs.size := by rw [hce]; rfl
    have cF : ce.frame = X.env.frame := by rw [hce]; rfl
    have nfp : ∀ b ∈ fp, (upd H2 D (.lst [])) b = none := fun b m => (f3 b m).1.1
    generalize upd H2 D (.lst []) = H3 at I3 I4 pg pt pe w0 nfp f3
    generalize e4 : ({ s3 with heap := pushCells (s3.heap.push { cls := .type "dict", data := .dict #[] }) scope.names } : Shared) = s4 at I4 ⊢
    have st4 : tn 0 s4.heap := T.keep _ _ _ st3 fun b _ o e => by rw [← e4]; exact pushCells_keeps _ _ _ _ (Heap.get?_push_of_some _ e)
    have stat : ∀ {τ : L2.St} {G : Hp} {s' : Shared}, Inv (X.blk s3 H3 scope ce fp) [] τ G s' → (∀ b ∈ fp, G b = none) → ∀ b ∈ fp, FpOk (X.blk s3 H3 scope ce fp) [] G b := fun J n b m =>
      ⟨n b m, (J.ok.exf b m).1, J.ok.exfs b m, .inl m, fun x c e => (J.ok.exf b m).2 x c e, fun p z => by simp at z⟩
    have loop : codeAny (model X.prog X.w) X.A (.compLoop (.ListComp elt [⟨tg, iter, ifs, 0⟩] scope pos) 0 (.ref it) (.ref D) ce) (postE (model X.prog X.w) X.A X.xe Qf (.ref D) s3.heap.objs.size X.env.frame) s4 := by
      refine compLoop_any (fun n s' => ∃ i G, Inv (X.blk s3 H3 scope ce fp) [] (wipe σ (own.map (·.2))) G s' ∧ tn i s'.heap ∧ (∀ b ∈ fp, G b = none) ∧ Wt i n G) ?_ m0 ⟨0, H3, I4, st4, nfp, w0⟩
      rintro n s5 ⟨i, H5, I5, st5, n5, w5⟩
      rcases turn i n H5 w5 with ⟨stop, qq⟩ | ⟨go, Nx, hNx, step⟩
      · refine thnF (T.done (X.blk s3 H3 scope ce fp) rfl rfl rfl hc i [] s5 _ H5 (fun _ _ => False) I5 (stat I5 n5) st5 stop) fun r s6 ⟨hr, I6⟩ => ?_
        subst hr
        have I7 : Inv X pins σ H5 s6 := I3.call' (ch := fp) I6.os I6.base I6.hok I6.bare fun b m => ⟨(f3 b m).1.2.2.2.1, (f3 b m).1.2.1, (f3 b m).1.2.2.2.2.1, (f3 b m).1.2.2.2.2.2⟩
        have nC : H5 s3.heap.objs.size = none := cL ▸ I6.free
        obtain ⟨m, hn, _⟩ := I6.loc
        have hn : s6.heap.Ns s3.heap.objs.size m := cL ▸ hn
        exact ⟨m, hn, hQ D s3.heap.objs.size s6 m H5 I7 qq hn (I3.fpOk (Nat.le_refl _) nC)⟩
      · refine thnF (T.item (X.blk s3 H3 scope ce fp) rfl rfl rfl hc i [] s5 _ H5 (fun _ _ => False) I5 (stat I5 n5) st5 go) fun r s6 ⟨u, hr, h6⟩ => ?_
        subst hr
        refine thnF h6 fun _ s7 ⟨x, H7, I7, r7, y7, st7, n7⟩ => ?_
        have I7' := I7.pinned (stat I7 n7) (T.obj _ _ st7)
        refine thnF (pg.run _ s7 _ H7 x u _ I7' r7 (step x H7 y7)) fun _ s8 ⟨τ, H8, I8, hw8, q8⟩ => ?_
        refine thnF (pt.run _ s8 τ H8 _ I8 q8) fun b s9 ⟨H9, I9, q9⟩ => ?_
        have fin : ∀ {s' : Shared} {G : Hp}, Inv (X.blk s3 H3 scope ce fp) ([] ++ pinsAt fp s7.heap) τ G s' → Nx G → ∃ m, m < n ∧ ∃ i G, Inv (X.blk s3 H3 scope ce fp) [] (wipe σ (own.map (·.2))) G s' ∧ tn i s'.heap ∧ (∀ b ∈ fp, G b = none) ∧ Wt i m G := fun {s' G} J nx => by
          obtain ⟨m, lt, w'⟩ := hNx G nx
          have pinned : ∀ b ∈ fp, ∀ o, s7.heap.get? b = some o → s'.heap.get? b = some o ∧ G b = none := fun b hb o e =>
            let z := J.pin (b, o) (List.mem_append_right _ (List.mem_append_right _ (mem_pinsAt hb e)))
            ⟨z.1, z.2.1⟩
          refine ⟨m, lt, i + 1, G, J.unpinned.weak (by rw [← hw8, wipe_length]) (fun j v e => ?_), T.keep _ _ _ st7 fun b hb o e => (pinned b hb o e).1, fun b hb => ?_, w'⟩
          · rw [← hw8] at e
            exact (wipe_some e).1
          · obtain ⟨o, e, _⟩ := T.obj _ _ st7 b hb
            exact (pinned b hb o e).2
        cases b with
        | false =>
          simp only [Bool.false_eq_true, if_false] at q9 ⊢
          exact fin I9 q9
        | true =>
          simp only [if_true] at q9 ⊢
          refine wpAny_mono ((pe (fun cls d G => W cls d σ G) (XB (X.blk s3 H3 scope ce fp) fun cls d G => W cls d σ G) fun τ => passB).run _ s9 τ H9 _ (I9.wish _) q9) (fun z s10 ⟨yv, H10, I10, r10, acc, hD10, hz10, nx⟩ => ?_) fun u s' x => leaveB hst hfr tk I3 cL cF (fun b m => (f3 b m).1) x
          exact app_ok (X := X.blk s3 H3 scope ce fp) I10.unwish hD10 hz10 r10 fun s11 I11 => fin I11 nx
    exact codeAny_compStart_list loop (T.self X.A 0 _ _ _ st4 loop)
  exact goal _ rfl
theorem pe_lcX {Wo : WX} {elt tg iter : Expr} {ifs : List Expr} {scope : Scope} {own : List (Str × Nat)} {wi : TI} {g : TG} {tt : TT} {te : XK → TE} (tk : Takes X Wo) (hc : X.calm = true) (hst : X.stack = X.env :: X.outer) (hfr : X.env.frame = some X.env.locals) (hN : X.N.Nodup) (hi : PI X tg iter wi) (ok : BlkOk X.N X.env.scope scope own)
    (hg : ∀ (s : Shared) (H : Hp) (C : Addr) (cl : List (Str × Addr)) (fp : List Addr), PG (X.blk s H scope (compEnvC scope cl C X.env) fp) tg g) (ht : ∀ (s : Shared) (H : Hp) (C : Addr) (cl : List (Str × Addr)) (fp : List Addr), PTs (X.blk s H scope (compEnvC scope cl C X.env) fp) ifs tt)
    (he : ∀ (s : Shared) (H : Hp) (C : Addr) (cl : List (Str × Addr)) (fp : List Addr) (E : XK) (xe : Value → Shared → Prop), (∀ τ, PassesAt (L2.CX X.prog X.w) ((X.blk s H scope (compEnvC scope cl C X.env) fp).wish xe) τ E) → PE ((X.blk s H scope (compEnvC scope cl C X.env) fp).wish xe) elt (te E))
    (hs : ∀ x, foldedSetIterable iter X.env x = pure x := by intro _; rfl) : PE X (.ListComp elt [⟨tg, iter, ifs, 0⟩] scope pos) (fun σ H Q => tLc wi g tt (te fun cls d G => Wo cls d σ G) (own.map (·.2)) σ H Q) := by
  refine ⟨fun pins s σ H Q I h => ?_⟩
  rw [eval_ListComp]
  refine lcX_core hc hN hst hfr tk I hi ok hg ht he hs h fun D C s' m H' I' q hn f h'' sb => ?_
  obtain ⟨f0, f1, f2, f3, f4, f5⟩ := f
  exact ⟨.ref D, H', I'.turned (t' := s'.toks) (fun b o hb e => (sb.2 b hb).trans e) f0 f1 f3 f4 f5, rfl, q⟩
end
end W

/-! GM: isinstance of an exception, its dict whatever it holds (own work over HandS.ExcIs). -/
namespace PySem.W
open PySem PySem.Spec PySem.Calls PyProof.Rows
section
variable {prog : Program} {w : World} {A : Around} {E : Value → Shared → Prop} {s : Shared} {K : Frag} {x D : Addr} {ox : Obj} {od : Option Obj}
theorem found_data {C : Addr} {n : Str} {a g : Value} (c : (clsIn K C).isSome = true) (h1 : findIn K (.ref C) n = some (some a)) (h2 : specialIn K a "__get__" = some (some g)) (h3 : takesIn K a = some true) : findObj K C od n = some (.bind g a) := by
  obtain ⟨cd, e⟩ := Option.isSome_iff_exists.mp c
  unfold findObj
  rw [e, Option.bind_some, h1, Option.bind_some]
  simp [h2, h3]
theorem excClass {Q : Option Value → Shared → Prop} (C : L2.ExcC K D) (X : K.In s.heap) (I : InstAt s.heap x ox D od) (h : Q (some (.ref D)) { s with toks := s.toks + 1 }) : wpAny (model prog w) A (getAttr? (.ref x) "__class__") Q E s := by
  have hf : findObj K D od "__class__" = some (.bind (.builtin "getset_descriptor.__get__") (.builtin "object.__class__")) := found_data (by obtain ⟨cd, e, _⟩ := any_some C.hd; rw [e]; rfl) C.ha C.hn C.ht
  obtain ⟨hp, g, dr, tk, os⟩ := s
  have kind := I.type (M := model prog w)
  have own1 := looks_findIn (M := model prog w) X C.hg
  have own2 := looks_findIn (M := model prog w) X C.hk
  have it := looks_find (M := model prog w) X I hf
  have above : Looks (model prog w) hp (isInstance (.ref x) (.type "BaseException")) true := kind.andThen (looks_subIn X C.hs)
  have z0 : (false && onTheHeap (Value.builtin "BaseException.__getattribute__")) = false := rfl
  have z1 : (onTheHeap (Value.ref D) && Value.builtin "BaseException.__getattribute__" == Value.builtin "object.__getattribute__") = false := by
    have : (Value.builtin "BaseException.__getattribute__" == Value.builtin "object.__getattribute__") = false := by decide +kernel
    rw [this]
    rfl
  unfold getAttr? getAttrBy? getAttrBy
  refine wpAny_bind (wpAny_mkText (wpAny_bind (wpAny_attempt (wpAny_holding ?_))))
  refine wpAny_bind (kind.at (wpAny_bind (own1.at ?_)))
  show wpAny _ _ (if (onTheHeap (Value.ref D) && Value.builtin "BaseException.__getattribute__" == Value.builtin "object.__getattribute__") = true then _ else _) _ _ _
  rw [z1, if_neg Bool.false_ne_true]
  unfold getAttrByItsOwn hookBefore
  refine wpAny_bind ?_
  rw [if_pos (show onTheHeap (Value.ref D) = true from rfl)]
  refine own2.at (wpAny_bind (wpAny_attempt (wpAny_holding ?_)))
  unfold callGetattribute
  rw [z0, if_neg Bool.false_ne_true]
  unfold boundAndCalled
  rw [PySem.F.excAttr_ValueError.ga.bind (.ref x)]
  refine wpAny_bind (wpAny_pure ?_)
  show wpAny _ _ (call (.builtin "BaseException.__getattribute__") [.ref x, .str "__class__" tk]) _ _ _
  refine wpAny_call (codeAny_call_builtin PySem.F.excAttr_ValueError.ga.plain PySem.F.entry_bexc_ga ?_)
  refine @check_slot (model prog w) _ _ ⟨hp, g, dr, tk + 1, os⟩ "BaseException.__getattribute__" "BaseException" "__getattribute__" (.ref x) [.str "__class__" tk] [] _ (by decide +kernel) (by decide +kernel) above (PySem.F.args_bexc_ga (.ref x) (.str "__class__" tk)) ?_
  unfold Builtin.«object.__getattribute__»
  refine wpAny_bind (wpAny_of_eq (a := ((Value.ref x : Value), [Value.str "__class__" tk])) (by first | rfl | (simp only [slotArgs]; rfl)) ?_)
  refine wpAny_bind (wpAny_pure (wpAny_bind (kind.at (wpAny_bind (it.at ?_)))))
  show wpAny _ _ (holding [Value.builtin "object.__class__"] (call (.builtin "getset_descriptor.__get__") [.builtin "object.__class__", .ref x, .ref D]) >>= ret) _ _ _
  refine wpAny_bind (wpAny_holding (wpAny_call (class_get (s := ⟨hp, g, dr, tk + 1, os⟩) (ox := ox) (od := od) X I C.hm ?_)))
  refine wpAny_pure ?_
  show wpAny _ _ (handedOut (.ref D)) _ _ _
  rw [handedOut_of (v := .ref D) rfl]
  first
    | exact wpAny_pure (wpAny_pure h)
    | exact wpAny_pure h
    | exact wpAny_pure (wpAny_bind (wpAny_pure (wpAny_pure h)))
theorem kit_excD (C : L2.ExcC K D) : KitX K (.ref x) (.ref D) (fun h => InstAt h x ox D od) where
  ty := fun _ _ _ I => I.type
  it := fun _ _ X _ => by
    obtain ⟨cd, e, _⟩ := any_some C.hd
    unfold clsIn at e
    split at e
    · rename_i c2 d2 cd2 sl2 ho
      intro A' Q' E' s' k q
      unfold isType loadHead
      exact wpAny_bind (wpAny_loadPart (k _ _ (X _ _ ho)) (wpAny_pure q))
    · cases e
  ne := fun h tp dd its n sl X htp => by
    obtain ⟨cd, e, _⟩ := any_some C.hd
    refine Bool.eq_false_iff.mpr fun q => ?_
    have z : D = tp := Value.ref.inj (beq_iff_eq.mp q)
    subst z
    unfold clsIn at e
    split at e
    · rename_i c2 d2 cd2 sl2 ho
      have := (X _ _ ho).symm.trans htp
      cases this
    · cases e
  ca := fun X I k => excClass C X I k
end
end PySem.W
namespace W
open PySem PySem.Spec PyProof.Rows L2
/-- isinstance(e, c) of an exception that is tracked -/
def rIsX (K : PySem.W.Frag) : List V → Hp → VK → Prop := fun xs H Q => ∃ (a C : Addr) (d : Option Addr) (c : V) (u : Value) (b : Bool), xs = [.ref a, c] ∧ H a = some (ExV (.ref C) d a) ∧ (∀ dd, d = some dd → ∃ fs, H dd = some (.xd fs)) ∧ ExcC K C ∧ ClsV c u ∧ PySem.W.kitOne K (.ref C) u = some b ∧ Q (.bl b) H
theorem call_isX {X : Cx} : CallR X (.builtin "isinstance") (rIsX X.K) := by
  intro pins s σ H xs us Q I r h
  obtain ⟨a, C, d, c, u, b, rfl, hA, hd, ec, k, e, q⟩ := h
  obtain ⟨u1, u2, rfl, r1, r2⟩ := vals2 r
  have e2 := k.eq r2
  subst e2
  have e1 : u1 = Value.ref a := r1
  subst e1
  obtain ⟨⟨oe, vs, g1, ⟨g2, g3⟩, g4⟩, _⟩ := (show ObjOk X.prog X.w H s.heap a (ExV (.ref C) d a) from I.hok a _ hA)
  have J : ∃ od, PySem.W.InstAt s.heap a oe C od := by
    obtain ⟨oc, odc, oda, osl⟩ := oe
    dsimp only at g2 g3 g4
    subst g2 g3 g4
    cases odc with
    | none => exact ⟨none, g1, rfl, rfl, trivial⟩
    | some dd =>
      obtain ⟨fs, hx⟩ := hd dd rfl
      obtain ⟨mA, ⟨o, es, ep, ho, r⟩, _⟩ := (show ObjOk X.prog X.w H s.heap dd (.xd fs) from I.hok dd _ hx)
      exact ⟨some o, g1, rfl, rfl, ho⟩
  obtain ⟨od, J⟩ := J
  exact PySem.W.kia_one (PySem.W.kit_excD ec) I.kIn J e (fun z => nomatch z) fun tk => ⟨.bl b, H, I.kept (t' := tk) fun _ _ z => z, rfl, q⟩
/-! ### over data -/
/-- what the head tells of isinstance(e, c): of which exception classes it is true -/
structure IsC (K : PySem.W.Frag) (mg : Str → Option Value) (c : Str) (tab : List (Str × Bool)) : Prop where
  ex : ∃ (cv : V) (u : Value), ClsV cv u ∧ (mg c = some u ∨ (mg c = none ∧ bootBuiltins c = some u)) ∧ PySem.W.kitOne K (.type "NoneType") u = some false ∧ ∀ n b, (n, b) ∈ tab → PySem.W.kitOne K (.ref (He.ga K n)) u = some b ∧ ExcC K (He.ga K n)
def catLookG : List (Str × Bool) → Str → Option Bool
  | [], _ => none
  | (n, b) :: r, x => if n = x then some b else catLookG r x
theorem catLookG_mem : ∀ {l : List (Str × Bool)} {x : Str} {b : Bool}, catLookG l x = some b → (x, b) ∈ l
  | (n, b') :: r, x, b, h => by
    rw [catLookG] at h
    split at h
    · rename_i e
      cases h
      rw [e]
      exact List.mem_cons_self ..
    · exact List.mem_cons_of_mem _ (catLookG_mem h)
theorem cls_rel {c : V} {u : Value} (k : ClsV c u) : RelV c u := by cases k <;> rfl
theorem PlaceAt.xd {S : Hp} {d : Option Addr} : ∀ {p : Option (Option Int)}, PlaceAt S d p → ∀ dd, d = some dd → ∃ fs, S dd = some (.xd fs)
  | none, h, dd, e => by rw [show d = none from h] at e; cases e
  | some none, ⟨d2, h1, h2⟩, dd, e => by rw [h1] at e; cases e; exact ⟨_, h2⟩
  | some (some i), ⟨d2, h1, h2⟩, dd, e => by rw [h1] at e; cases e; exact ⟨_, h2⟩
def D.asX (tab : List (Str × Bool)) (d : D) (Q : Bool → Prop) : Prop := match d with
  | .exc c _ => ∃ b, catLookG tab c = some b ∧ Q b
  | .non => Q false
  | _ => False
def bIsX (tab : List (Str × Bool)) (b : BT) : BT := fun env Q => b env fun t => t.d.asX tab fun k => Q (.sh (.bl k))
section
variable {X : Cx} {K : PySem.W.Frag} {a e : Expr} {ba be : BT} {pos p p2 : Pos}
theorem b_isX {c : Str} {tab : List (Str × Bool)} (T : IsC X.K X.mg c tab) (hm : X.mg "isinstance" = none) (hg : Gl X "isinstance") (hgc : Gl X c) (ha : PB X a ba) (hdb : (c == ("__debug__" : Str)) = false := by decide) (hn : c ≠ "__name__" := by decide)
    (hs : starEach [a, .Name c p2] X.env = (false, eval a X.env) :: starEach [.Name c p2] X.env := by rfl) (hs2 : starEach [.Name c p2] X.env = (false, eval (.Name c p2) X.env) :: starEach [] X.env := by rfl) (hpl : (backTo pos (starEach [.Name c p2] X.env)).any (·.1) = false := by rfl) :
    PB X (.Call (.Name "isinstance" p) [a, .Name c p2] [] pos) (bIsX tab ba) := by
  obtain ⟨cv, u, k, hmc, hnon, htab⟩ := T.ex
  have hj : PE X (.Name c p2) (tC cv) := by
    rcases hmc with h | ⟨h, h2⟩
    · exact pe_glob hgc h (cls_rel k) hdb
    · exact pe_bltn hgc h h2 (cls_rel k) hn hdb
  refine pe_weak (pe_callB (CallR_or call_isi call_isX) hg hm PyProof.Rows.boot_isinstance (pa_cons ha (pa_cons hj pa_nil hs2) hs) (by decide) (by decide) hs hpl) fun σ H Q ⟨S, env, Qd, hS, hE, hb, hQ⟩ => ?_
  refine ⟨S, env, _, hS, hE, hb, fun v S1 H1 t1 O1 q1 => ?_⟩
  obtain ⟨S2, e2, l2, a2⟩ := O1.share
  generalize t1.d = d at a2 q1
  cases a2 with
  | non => exact .inl ⟨.non, cv, .type "NoneType", u, false, rfl, k, .base .non, hnon, hQ _ _ _ _ ((Out.sh e2.le (.bl _)).from e2) q1⟩
  | @exc a dd c p h1 h2 =>
    obtain ⟨b, hb2, q1⟩ := q1
    obtain ⟨g1, g2⟩ := htab _ _ (catLookG_mem hb2)
    exact .inr ⟨a, _, dd, cv, u, b, rfl, e2.le _ _ h1, fun d2 ed => by
      obtain ⟨fs, z⟩ := h2.xd d2 ed
      exact ⟨fs, e2.le _ _ z⟩, g2, k, g1, hQ _ _ _ _ ((Out.sh e2.le (.bl _)).from e2) q1⟩
  | _ => exact q1.elim
end
end W

/-! GN: over data: except c as n, e.place, a comprehension that may raise. -/
namespace W
open PySem L2
/-! ### except c as n -/
def plc : Option D → Option (Option Int)
  | none => none
  | some (.int i) => some (some i)
  | some _ => some none
abbrev excD (x : Xn) : D := .exc x.c (plc x.p)
/-- what the head tells of an except clause's class, and where the classes stand -/
structure HndG (K : PySem.W.Frag) (mg : Str → Option Value) (x : Str) (cat : List (Str × Bool)) : Prop where
  ex : ∃ c, mg x = some c ∧ ∀ n b, (n, b) ∈ cat → mg n = some (.ref (He.ga K n)) ∧ PySem.W.exmOne K (.ref (He.ga K n)) c = some b
theorem ext_adoptX {S H : Hp} {L : List Addr} (e : Same S H) (h : ∀ b ∈ L, ∀ o : OM, H b ≠ some o.ho) : Ext S H (shr S H L) H :=
  ⟨shr_le e, .refl _, shr_ge e, fun a u q => shr_out fun m => h a m u q⟩
section
variable {K : PySem.W.Frag} {S0 H0 S H S' H' : Hp} {σ : L2.St} {env : List (Option T)} {Lf : Nat → List Addr}
theorem Own.unset (o : Own K S0 H0 S H σ env Lf) (i : Nat) : ∃ Lf', Own K S0 H0 S H (σ.set i none) (env.set i none) Lf' := by
  refine ⟨fun j => if j = i then [] else Lf j, o.ext, by rw [List.length_set, List.length_set]; exact o.len, fun j u hu => ?_, fun j => ?_, fun j k a m1 m2 => ?_, fun j a m => ?_⟩
  · rw [nth_set] at hu
    split at hu
    · cases hu
    · rename_i hij
      obtain ⟨w, h1, h2⟩ := o.slot j u hu
      by_cases e : j = i
      · subst e
        have : ¬ j < env.length := fun z => hij ⟨rfl, z⟩
        have hlt := (List.getElem?_eq_some_iff.mp h1).1
        have hh := o.len
        omega
      · rw [if_neg e]
        exact ⟨w, by rw [List.getElem?_set_ne (Ne.symm e)]; exact h1, h2⟩
  · show (if j = i then [] else Lf j).Nodup
    split
    · exact List.nodup_nil
    · exact o.nod j
  · have m1 : a ∈ if j = i then [] else Lf j := m1
    have m2 : a ∈ if k = i then [] else Lf k := m2
    split at m1
    · cases m1
    · split at m2
      · cases m2
      · exact o.dis j k a m1 m2
  · have m : a ∈ if j = i then [] else Lf j := m
    split at m
    · cases m
    · exact o.fr j a m
/-- the exception is known from here on -/
theorem Own.caught {mg : Str → Option Value} {xn : Xn} {cls : Value} {dx : Option Addr} {a : Addr} {i : Nat} (o : Own K S0 H0 S H σ env Lf) (xa : XAt mg H cls dx xn) (hm : mg xn.c = some (.ref (He.ga K xn.c))) (na : H a = none) :
    ∃ S1 Lf1, Same S S1 ∧ Own K S0 H0 S1 (upd H a (ExV cls dx a)) (σ.set i (some (.ref a))) (env.set i (some (.sh (excD xn)))) Lf1 := by
  obtain ⟨C, h1, rfl, h2⟩ := xa
  rw [hm] at h1
  cases h1
  have e1 := ext_new (o := ExV (.ref (He.ga K xn.c)) dx a) o.ext.le na
  have e2 := ext_adoptX (L := a :: dx.toList) e1.le fun b m u z => by
    rcases List.mem_cons.mp m with rfl | m
    · rw [upd_same] at z
      cases u <;> cases z
    · cases dx with
      | none => cases m
      | some dd =>
        rw [Option.toList_some, List.mem_singleton] at m
        subst m
        cases hp : xn.p with
        | none => rw [hp] at h2; cases h2
        | some q =>
          rw [hp] at h2
          obtain ⟨d2, v, h3, h4, h5⟩ := h2
          cases h3
          rw [upd_ne (ne_of_none h4 na), h4] at z
          cases u <;> cases z
  have o2 := o.grow (e1.trans e2)
  have at_ : At K (shr S (upd H a (ExV (.ref (He.ga K xn.c)) dx a)) (a :: dx.toList)) (.ref a) (excD xn) := by
    refine .exc (by rw [shr_in (by simp), upd_same]) ?_
    cases hp : xn.p with
    | none =>
      rw [hp] at h2
      exact h2
    | some q =>
      rw [hp] at h2
      obtain ⟨d2, v, h3, h4, h5⟩ := h2
      subst h3
      have g : shr S (upd H a (ExV (.ref (He.ga K xn.c)) (some d2) a)) (a :: (some d2).toList) d2 = some (.xd [("place", v)]) := by
        rw [shr_in (by simp), upd_ne (ne_of_none h4 na)]
        exact h4
      cases v <;> cases q <;> first | exact h5.elim | (subst h5; exact ⟨d2, rfl, g⟩) | exact ⟨d2, rfl, g⟩
  obtain ⟨Lf1, o3, _⟩ := o2.putx (j := i) (.sh at_) ⟨List.nodup_nil, fun _ m => by cases m⟩
  exact ⟨_, Lf1, (e1.trans e2).s, o3⟩
end
def sTryAs (db : DS) (cat : List (Str × Bool)) (i : Nat) (dsu : DS) : DS := fun De env => db { De with xc := fun xn env' => match catLook cat xn.c with
  | some true => dsu ⟨fun e => De.nx (e.set i none), De.rt, fun e => De.bk (e.set i none), fun e => De.ct (e.set i none), fun _ _ => False⟩ (env'.set i (some (.sh (excD xn))))
  | some false => De.xc xn env'
  | none => False } env
section
variable {X : Cx} {a e : Expr} {es : List Expr} {ba be : BT} {bs : BA} {pos p pos2 : Pos} {i k : Nat} {x : Str} {sp : SpX}
theorem s_tryAs {n : Str} {cat : List (Str × Bool)} {body suite : List Stmt} {b₀ : Stmt} {np pos' : Pos} {db dsu : DS} (hs : X.stack = X.env :: X.outer) (hf : X.env.frame = some X.env.locals) (hex : X.ex = []) (hN : X.N.Nodup) (hi : X.N[i]? = some n) (hln : X.env.kindOf n = some .local) (hh : HndG X.K X.mg x cat) (hg : Gl X x)
    (hb : ∀ (pn : List (Addr × Obj)) (xe : Value → Shared → Prop), PassesOwn (model X.prog X.w) X.A X.env xe → PSds (X.tr pn xe) body db)
    (hsu : ∀ (a : Addr) (pn : List (Addr × Obj)), PSds (X.suite a pn) (b₀ :: suite) dsu) (hdb : (x == ("__debug__" : Str)) = false := by decide) :
    PSd X (.Try body [.ExceptHandler (some (.Name x np)) (some n) (b₀ :: suite) pos'] [] [] pos) (sTryAs db cat i dsu) := by
  obtain ⟨c, hm, hcat⟩ := hh.ex
  refine ps_weak (ps_tryT (i := i) (c := c) (tb := fun W => sOfW X.K X.mg W db) (ts := sOfW X.K X.mg (fun _ _ _ _ => False) dsu) hs hf hex hN hi hln ⟨hg, hdb, .inl hm⟩ (takes_Wx X) (fun W pn xe tk hp => pss_weak (hb pn xe hp) fun D σ H h => sOfW_imp (fun cls d σ H w => Wx_of tk w) h)
    (fun a pn => pss_weak (hsu a _) fun D σ H h => sOfW_imp (fun _ _ _ _ z => z.elim) h)) fun D σ H ⟨S0, H0, S, env, Lf, De, o, hd, n, bb, cc, r⟩ => ?_
  refine ⟨S0, H0, S, env, Lf, _, o, hd, n, bb, cc, r.1, fun S' H' σ' env' Lf' cls dx xn e o' xa q => ?_⟩
  cases el : catLook cat xn.c with
  | none => simp only [el] at q
  | some b =>
    obtain ⟨g1, g2⟩ := hcat _ _ (catLook_mem el)
    refine ⟨b, ?_, fun hb1 a ha => ?_, fun hb1 => ?_⟩
    · obtain ⟨C, g, rfl, _⟩ := xa
      rw [g1] at g
      cases g
      exact g2
    · subst hb1
      simp only [el] at q
      obtain ⟨S1, Lf1, s1, o1⟩ := o'.caught (i := i) xa g1 ha
      refine ⟨S0, H0, S1, _, Lf1, _, o1, q, fun S2 H2 σ2 env2 Lf2 e2 o2 z => ?_, fun S2 H2 σ2 env2 Lf2 e2 o2 z => ?_, fun S2 H2 σ2 env2 Lf2 e2 o2 z => ?_, r.1, fun _ _ _ _ _ _ _ _ _ _ _ z => z.elim⟩
      · obtain ⟨Lf3, o3⟩ := o2.unset i
        exact n S2 H2 _ _ Lf3 ((e.trans s1).trans e2) o3 z
      · obtain ⟨Lf3, o3⟩ := o2.unset i
        exact bb S2 H2 _ _ Lf3 ((e.trans s1).trans e2) o3 z
      · obtain ⟨Lf3, o3⟩ := o2.unset i
        exact cc S2 H2 _ _ Lf3 ((e.trans s1).trans e2) o3 z
    · subst hb1
      simp only [el] at q
      exact r.2 S' H' σ' env' Lf' cls dx xn e o' xa q
/-! ### return (e, [f(..) for x in ..]), f may raise -/
def sRetLcX (ba : BT) (bi : BI) (tg : Tg) (sp : SpX) (bs : BA) (vs : List Nat) : DS := fun De env => ba (hide env) fun t0 => bi (hide env) fun items => items.length ≤ 50000 ∧ ∃ (α : Type) (xs : List α) (f : α → D) (r : α → Option D), items = xs.map f ∧
  (∀ x ∈ xs, ∃ env1, tg.put (.sh (f x)) (wipeE (hide env) vs) = some env1 ∧ bs env1 fun ts => sp (T.ds ts) (fun t => r x = some t.d) fun xn => De.xc xn env) ∧ ((∀ x ∈ xs, (r x).isSome = true) → De.rt (.tp [.sh t0.d, .ow (xs.filterMap r)]) env)
theorem s_retLcX {fn : Str} {k : Nat} {tge iter : Expr} {scope : Scope} {own : List (Str × Nat)} {tg : Tg} {bi : BI} {e0 : Expr} {kk : Nat} {tpos rpos cpos lpos : Pos} (hc : X.calm = true) (hst : X.stack = X.env :: X.outer) (hfr : X.env.frame = some X.env.locals) (hN : X.N.Nodup)
    (c : CalX X.prog X.w X.K X.mg X.base k fn sp) (hr : Room k X.A) (h0 : PB X e0 ba) (hi : PIb X tge iter bi) (ok : BlkOk X.N X.env.scope scope own)
    (hg : ∀ (s : Shared) (H : Hp) (C : Addr) (cl : List (Str × Addr)) (fp : List Addr), PG (X.blk s H scope (compEnvC scope cl C X.env) fp) tge (tg.g X.K))
    (hgl : ∀ (s : Shared) (H : Hp) (C : Addr) (cl : List (Str × Addr)) (fp : List Addr) (xe : Value → Shared → Prop), Gl ((X.blk s H scope (compEnvC scope cl C X.env) fp).wish xe) fn)
    (ha : ∀ (s : Shared) (H : Hp) (C : Addr) (cl : List (Str × Addr)) (fp : List Addr) (xe : Value → Shared → Prop), PAb ((X.blk s H scope (compEnvC scope cl C X.env) fp).wish xe) (a :: es) bs)
    (hse : ∀ (s : Shared) (H : Hp) (C : Addr) (cl : List (Str × Addr)) (fp : List Addr), starEach (a :: es) (compEnvC scope cl C X.env) = (false, eval a (compEnvC scope cl C X.env)) :: starEach es (compEnvC scope cl C X.env))
    (hpl : ∀ (C : Addr) (cl : List (Str × Addr)), (backTo cpos (starEach es (compEnvC scope cl C X.env))).any (·.1) = false)
    (hj : ∀ j ∈ tg.js, j ∈ own.map (·.2)) (hdb : (fn == ("__debug__" : Str)) = false := by decide)
    (hs : ∀ x, foldedSetIterable iter X.env x = pure x := by intro _; rfl)
    (hs1 : starEach [e0, .ListComp (.Call (.Name fn p) (a :: es) [] cpos) [⟨tge, iter, [], 0⟩] scope lpos] X.env = (false, eval e0 X.env) :: starEach [.ListComp (.Call (.Name fn p) (a :: es) [] cpos) [⟨tge, iter, [], 0⟩] scope lpos] X.env := by rfl)
    (hs2 : starEach [.ListComp (.Call (.Name fn p) (a :: es) [] cpos) [⟨tge, iter, [], 0⟩] scope lpos] X.env = (false, eval (.ListComp (.Call (.Name fn p) (a :: es) [] cpos) [⟨tge, iter, [], 0⟩] scope lpos) X.env) :: starEach [] X.env := by rfl) :
    PSd X (.Return (some (.Tuple [e0, .ListComp (.Call (.Name fn p) (a :: es) [] cpos) [⟨tge, iter, [], 0⟩] scope lpos] kk tpos)) rpos) (sRetLcX ba bi tg sp bs (own.map (·.2))) := by
  obtain ⟨f, fd, ps, F, hm, kp, b⟩ := c.ex
  have hl := pe_lcX (te := fun E => tCallS (spOfX X.K X.mg sp) (fun _ => E) (aOf X.K bs)) (pos := lpos) (takes_Wx X) hc hst hfr hN hi ok hg (fun s H C cl fp => pts_nil)
    (fun s H C cl fp E xe hp => pe_callS (E := fun _ => E) (p := p) (pos := cpos) F hr (hgl s H C cl fp xe) hm kp b hp (ha s H C cl fp xe) hdb (hse s H C cl fp) (hpl C cl)) hs
  refine ps_weak (ps_ret (pe_tup (pa_cons h0 (pa_cons hl pa_nil hs2) hs1))) fun D σ H ⟨S0, H0, S, env, Lf, De, o, hd, n, bb, cc, r⟩ => ?_
  refine ⟨S, hide env, _, o.ext.le, o.hid, hd, fun v0 S1 H1 t0 O0 q0 => ?_⟩
  obtain ⟨S2, e2, _, a2⟩ := O0.share
  refine ⟨S2, hide env, _, e2.le, o.hid.mono e2.s, q0, fun J S3 H3 items e3 io ⟨hn, α, xs, f, rr, hx, ht, hq⟩ Dd hD => ?_⟩
  subst hx
  have hlen : (xs.map f).length = xs.length := List.length_map ..
  rw [hlen] at hn
  refine ⟨fun i m Hc => m = xs.length - i ∧ i ≤ xs.length ∧ (∀ x ∈ xs.take i, (rr x).isSome = true) ∧ ∃ Sc acc, Ext S3 H3 Sc Hc ∧ Sc Dd = none ∧ Hc Dd = some (.lst acc) ∧ Ats X.K Sc acc ((xs.take i).filterMap rr),
    ⟨xs.length, by simp, Nat.zero_le _, by simp, S3, [], ⟨.refl _, same_new hD, e3.le.trans (same_new hD), fun _ _ _ => rfl⟩, Same.none e3.le hD, upd_same, .nil⟩, ?_⟩
  rintro i m Hc ⟨rfl, hil, hso, Sc, acc, ec, hSD, hHD, haa⟩
  by_cases hlt : i < xs.length
  · refine .inr ⟨io.1 i Hc (ec.s.trans ec.le) (by omega), fun H' => i + 1 ≤ xs.length ∧ (∀ x ∈ xs.take (i + 1), (rr x).isSome = true) ∧ ∃ Sc acc, Ext S3 H3 Sc H' ∧ Sc Dd = none ∧ H' Dd = some (.lst acc) ∧ Ats X.K Sc acc ((xs.take (i + 1)).filterMap rr),
      fun H' h => ⟨xs.length - (i + 1), by omega, rfl, h.1, h.2.1, h.2.2⟩, fun x H' y => ?_⟩
    obtain ⟨d, S4, hd4, e4, a4⟩ := io.2.2 i Sc Hc x H' (by omega) ec.s ec.le y
    have hxi : xs[i]? = some xs[i] := by simp [hlt]
    rw [List.getElem?_map, hxi] at hd4
    cases hd4
    obtain ⟨env1, hp, hb1⟩ := ht xs[i] (List.getElem_mem hlt)
    have etot := (e2.trans e3).trans (ec.trans e4)
    refine tg_ok (vs0 := own.map (·.2)) e4.le ((o.hid.mono etot.s).wiped _) a4 hp hj fun σ' hE' hw => ⟨by rw [hw, wipe_wipe], ?_⟩
    simp only [tYes, if_true]
    refine ⟨S4, env1, _, e4.le, hE', hb1, fun vs S5 H5 ts O5 q5 => ?_⟩
    obtain ⟨S6, e6, _, a6⟩ := O5.share
    refine ⟨S6, _, _, _, e6.le, a6, q5, fun v S7 H7 t O7 hr => ?_, fun cls dx S7 H7 xn e7 xa q => ?_⟩
    · obtain ⟨S8, e8, _, a8⟩ := O7.share
      have ett := (e4.trans e6).trans e8
      have hD8 : S8 Dd = none := (ett.dom Dd (.lst _) hHD).trans hSD
      have tk2 : xs.take (i + 1) = xs.take i ++ [xs[i]] := by rw [List.take_add_one, hxi]; rfl
      refine ⟨acc, ett.h Dd _ hHD, Nat.lt_of_le_of_lt (m := 50000) ?_ (by decide), hlt, fun z hz => ?_, S8, acc ++ [v], ⟨ec.s.trans ett.s, fun b o h => ?_, fun b o h => ?_, fun b o h => (ett.dom b o (ec.h b _ h)).trans (ec.dom b o h)⟩, hD8, upd_same, ?_⟩
      · rw [haa.length]
        have h1 := List.length_filterMap_le rr (xs.take i)
        have h2 := List.length_take_le i xs
        omega
      · rw [tk2] at hz
        rcases List.mem_append.mp hz with hz | hz
        · exact hso z hz
        · rw [List.mem_singleton] at hz
          rw [hz, hr]
          rfl
      · rw [upd_ne (ne_of_none h hD)]
        exact ett.h b o (ec.h b o h)
      · rw [upd_ne (ne_of_none h hD8)]
        exact ett.le b o h
      · rw [tk2, List.filterMap_append]
        show Ats X.K S8 (acc ++ [v]) (_ ++ List.filterMap rr [xs[i]])
        rw [show List.filterMap rr [xs[i]] = [t.d] by simp [hr]]
        exact (haa.mono ett.s).append (.cons a8 .nil)
    · have eall := ((etot.trans e6).trans e7)
      exact r.2 S7 H7 σ env Lf cls dx xn eall.s (o.grow eall) xa q
  · have e : i = xs.length := by omega
    subst e
    rw [List.take_length] at haa hso
    refine .inl ⟨by have := io.2.1 Hc (ec.s.trans ec.le); rwa [hlen] at this, ?_⟩
    refine ⟨by simp; decide, fun pp hpp => ?_⟩
    have eall := (e2.trans e3).trans ec
    have hDH : H Dd = none := Same.none (e2.trans e3).h hD
    have outs : Outs X.K S H [v0, .ref Dd] [.sh t0.d, .ow (xs.filterMap rr)] Sc Hc := ⟨eall, [] ++ ([Dd] ++ []), .cons (.sh (a2.mono (e3.s.trans ec.s))) (.cons (.ow hHD haa) .nil), by simp, fun b m => by
      have : b = Dd := by simpa using m
      subst this
      exact ⟨hDH, hSD⟩⟩
    obtain ⟨e9, L9, r9, f9⟩ := Out.tp outs hpp
    exact r.1 (.ref pp) _ _ σ env Lf _ L9 (o.grow e9) r9 (o.pend r9 f9) (hq hso)
end
end W

/-! GO: the head's facts of exceptions; e.place; text * int, text.index; a list within a tuple of ours grows. -/
namespace W
open PySem L2
/-! ### facts -/
def excCB (K : PySem.W.Frag) (D : Addr) : Bool := decide (PySem.W.findIn K (.ref D) "__getattribute__" = some (some (.builtin "BaseException.__getattribute__"))) && (decide (PySem.W.findIn K (.ref D) "__getattr__" = some none) && (decide (PySem.W.subIn K (.ref D) (.type "BaseException") = some true) && (PySem.W.hasDictIn K D &&
  (decide (PySem.W.findIn K (.ref D) "__class__" = some (some (.builtin "object.__class__"))) && (decide (PySem.W.specialIn K (.builtin "object.__class__") "__get__" = some (some (.builtin "getset_descriptor.__get__"))) && (decide (PySem.W.takesIn K (.builtin "object.__class__") = some true) && decide (PySem.W.mroIn K D (.type "object") = some true)))))))
theorem excCB_ok {K : PySem.W.Frag} {D : Addr} (h : excCB K D = true) : ExcC K D := by
  unfold excCB at h
  obtain ⟨h1, h⟩ := He.ba h
  obtain ⟨h2, h⟩ := He.ba h
  obtain ⟨h3, h⟩ := He.ba h
  obtain ⟨h4, h⟩ := He.ba h
  obtain ⟨h5, h⟩ := He.ba h
  obtain ⟨h6, h⟩ := He.ba h
  obtain ⟨h7, h8⟩ := He.ba h
  exact ⟨of_decide_eq_true h1, of_decide_eq_true h2, of_decide_eq_true h3, h4, of_decide_eq_true h5, of_decide_eq_true h6, of_decide_eq_true h7, of_decide_eq_true h8⟩
def isB (K : PySem.W.Frag) (u : Value) (tab : List (Str × Bool)) : Bool := decide (PySem.W.kitOne K (.type "NoneType") u = some false) && tab.all fun p => decide (PySem.W.kitOne K (.ref (He.ga K p.1)) u = some p.2) && excCB K (He.ga K p.1)
theorem isB_ok {K : PySem.W.Frag} {u : Value} {tab : List (Str × Bool)} (h : isB K u tab = true) : PySem.W.kitOne K (.type "NoneType") u = some false ∧ ∀ n b, (n, b) ∈ tab → PySem.W.kitOne K (.ref (He.ga K n)) u = some b ∧ ExcC K (He.ga K n) := by
  obtain ⟨h1, h2⟩ := He.ba h
  refine ⟨of_decide_eq_true h1, fun n b m => ?_⟩
  obtain ⟨h3, h4⟩ := He.ba (List.all_eq_true.mp h2 (n, b) m)
  exact ⟨of_decide_eq_true h3, excCB_ok h4⟩
theorem isC_own {K : PySem.W.Frag} {mg : Str → Option Value} {c : Str} {tab : List (Str × Bool)} (hm : mg c = some (.ref (He.ga K c))) (h : isB K (.ref (He.ga K c)) tab = true) : IsC K mg c tab := ⟨_, _, .own _, .inl hm, isB_ok h⟩
theorem isC_ve {K : PySem.W.Frag} {mg : Str → Option Value} {tab : List (Str × Bool)} (hm : mg "ValueError" = none) (h : isB K (.type "ValueError") tab = true) : IsC K mg "ValueError" tab :=
  ⟨_, _, .ty "ValueError", .inr ⟨hm, by first | rfl | decide +kernel⟩, isB_ok h⟩
def HAllG (K : PySem.W.Frag) (mg : Str → Option Value) (c : Value) : List (Str × Bool) → Prop
  | [] => True
  | (n, b) :: r => (mg n = some (.ref (He.ga K n)) ∧ PySem.W.exmOne K (.ref (He.ga K n)) c = some b) ∧ HAllG K mg c r
theorem hallG_mem {K : PySem.W.Frag} {mg : Str → Option Value} {c : Value} : ∀ {cat : List (Str × Bool)}, HAllG K mg c cat → ∀ n b, (n, b) ∈ cat → mg n = some (.ref (He.ga K n)) ∧ PySem.W.exmOne K (.ref (He.ga K n)) c = some b
  | (n', b') :: r, h, n, b, m => by
    rcases List.mem_cons.mp m with e | m
    · cases e
      exact h.1
    · exact hallG_mem h.2 n b m
theorem hndG_mk {K : PySem.W.Frag} {mg : Str → Option Value} {x : Str} {cat : List (Str × Bool)} {c : Value} (h : mg x = some c) (r : HAllG K mg c cat) : HndG K mg x cat := ⟨c, h, hallG_mem r⟩
/-! ### e.place -/
structure PlaceC (K : PySem.W.Frag) (c : Str) : Prop where
  ex : ExcC K (He.ga K c)
  no : PySem.W.findIn K (.ref (He.ga K c)) "place" = some none
def placeB (K : PySem.W.Frag) (c : Str) : Bool := excCB K (He.ga K c) && decide (PySem.W.findIn K (.ref (He.ga K c)) "place" = some none)
theorem placeB_ok {K : PySem.W.Frag} {c : Str} (h : placeB K c = true) : PlaceC K c := by
  obtain ⟨h1, h2⟩ := He.ba h
  exact ⟨excCB_ok h1, of_decide_eq_true h2⟩
def plcD : Option Int → D
  | none => .non
  | some i => .int i
def D.asP (c : Str) (d : D) (Q : Option Int → Prop) : Prop := match d with
  | .exc n (some p) => n = c ∧ Q p
  | _ => False
def bPlace (c : Str) (b : BT) : BT := fun env Q => b env fun t => t.d.asP c fun p => Q (.sh (plcD p))
/-! ### text * int -/
def repS (z : Str) (n : Nat) : Str := ⟨(List.replicate n z.cps.toList).flatten.toArray⟩
theorem repS_tl (z : Str) (n : Nat) : TL.tl (repS z n) = (List.replicate n (TL.tl z)).flatten := rfl
theorem repS_len (z : Str) (n : Nat) : (repS z n).length = n * z.length := by
  rw [TL.len_tl, repS_tl, TL.len_tl z]
  simp
theorem fold_app (l : List Nat) : ∀ (n : Nat) (acc : List Nat), (List.replicate n l.toArray).foldl (· ++ ·) acc.toArray = (acc ++ (List.replicate n l).flatten).toArray
  | 0, acc => by simp
  | n + 1, acc => by
    rw [List.replicate_succ, List.foldl_cons, List.append_toArray, fold_app l n (acc ++ l), List.replicate_succ, List.flatten_cons, List.append_assoc]
theorem op_mulS {X : Cx} : OpR X (binaryOp .Mult) (fun x y H Q => ∃ (z : Str) (n : Int), x = .str z ∧ y = .int n ∧ 1 ≤ n ∧ n ≤ 1000 ∧ z.length * n.toNat ≤ 100000 ∧ Q (.str (repS z n.toNat)) H) := by
  intro pins s σ H x y v u Q I rx ry h
  obtain ⟨z, n, rfl, rfl, h1, h2, hl, q⟩ := h
  obtain ⟨t, rfl⟩ := rx
  obtain ⟨t2, rfl⟩ := ry
  have key : (if n < 1 then Made.str Str.empty else if (n == 1 || z.length == 0) = true then Made.val (.str z t) else Made.str ⟨(List.replicate n.toNat z.cps).foldl (· ++ ·) #[]⟩).post (EP X pins σ Q) s := by
    rw [if_neg (by omega)]
    by_cases hc : (n == 1 || z.length == 0) = true
    · rw [if_pos hc]
      have e : repS z n.toNat = z := by
        refine TL.ext_tl ?_
        rw [repS_tl]
        rw [Bool.or_eq_true] at hc
        rcases hc with hc | hc
        · have : n = 1 := eq_of_beq hc
          subst this
          simp
        · have : TL.tl z = [] := by
            have h0 : z.length = 0 := eq_of_beq hc
            rw [TL.len_tl] at h0
            exact List.eq_nil_of_length_eq_zero h0
          rw [this]
          simp
      rw [e] at q
      exact ⟨.str z, H, I, ⟨_, rfl⟩, q⟩
    · rw [if_neg hc]
      have e : (⟨(List.replicate n.toNat z.cps).foldl (· ++ ·) #[]⟩ : Str) = repS z n.toNat := by
        have := fold_app z.cps.toList n.toNat []
        rw [List.nil_append] at this
        unfold repS
        rw [← this]
      rw [e]
      refine ⟨?_, .str (repS z n.toNat), H, I.tok _, ⟨_, rfl⟩, q⟩
      rw [repS_len]
      exact line_le (by rw [Nat.mul_comm]; exact hl)
  refine PySem.P.mul_str (by
    rw [decide_eq_false (by omega), decide_eq_false (by omega)]
    rfl) (fun _ _ => ?_) (fun _ _ => ?_) key
  · have h4 : z.length ≤ 100000 := by
      have : z.length * 1 ≤ z.length * n.toNat := Nat.mul_le_mul_left _ (by omega)
      omega
    have h5 : (100000 : Int) ≤ (2 ^ 63 - 1) / n := (Int.le_ediv_iff_mul_le (by omega)).mpr (by
      have : (2 ^ 63 - 1 : Int) = 9223372036854775807 := by decide
      omega)
    omega
  · show decide (z.length * n.toNat > sizeLine) = false
    exact decide_eq_false (Nat.not_lt.mpr (line_le hl))
def fMulS : F2 := fun d e Q => ∃ (z : Str) (n : Int), d = .str z ∧ e = .int n ∧ 1 ≤ n ∧ n ≤ 1000 ∧ z.length * n.toNat ≤ 100000 ∧ Q (.sh (.str (repS z n.toNat)))
theorem o_mulS {X : Cx} : OpD X (binaryOp .Mult) fMulS := ⟨_, op_mulS, fun S H v w d e Q Qd hS h1 h2 hf hQ => by
  obtain ⟨z, n, rfl, rfl, g1, g2, g3, hq⟩ := hf
  cases h1
  cases h2
  exact ⟨z, n, rfl, rfl, g1, g2, g3, hQ _ S H _ (.sh hS (.str _)) hq⟩⟩
theorem rd_eq {H : Hp} {a : Addr} {xs ys : List V} (h1 : Rd H a (.tup xs)) (h2 : Rd H a (.tup ys)) : xs = ys := by
  rcases h1 with h1 | ⟨o1, h1⟩ <;> rcases h2 with h2 | ⟨o2, h2⟩ <;> rw [h1] at h2 <;> cases h2 <;> rfl
section
variable {X : Cx} {K : PySem.W.Frag} {a b c e : Expr} {ba bb be : BT} {bk bm : BM} {pos p2 p apos cpos : Pos} {S0 H0 S H S' H' : Hp} {σ : L2.St} {env : List (Option T)} {Lf : Nat → List Addr}
/-- x.index(y) of texts, y found -/
def bIndexS (ba bb : BT) : BT := fun env Q => ba env fun x => ∃ s : Str, x.d = .str s ∧ bb env fun y => ∃ z : Str, y.d = .str z ∧ ∃ i rest, Builtin.Str.occurrences s z 0 s.length 1 = i :: rest ∧ Q (.sh (.int (i : Nat)))
theorem b_indexS (ha : PB X a ba) (hb : PB X b bb) (hbase : attributeBase a "index" X.env (eval a X.env) = eval a X.env := by rfl)
    (hfew : ((backTo cpos (starEach [b] X.env)).all (fun x => !x.1) && (backToKw cpos (keywordEach [] X.env)).all (fun x => x.1.isSome) && decide (([b] : List Expr).length + ([] : List Keyword).length + (if ([] : List Keyword).isEmpty then 0 else 1) < 30)) = true := by rfl)
    (hline : (apos.endLine == cpos.line) = true := by rfl) (hs : starEach [b] X.env = (false, eval b X.env) :: starEach [] X.env := by rfl) (hplain : (backTo cpos (starEach [] X.env)).any (·.1) = false := by rfl) :
    PB X (.Call (.Attribute a "index" apos) [b] [] cpos) (bIndexS ba bb) :=
  pe_weak (pe_bm PySem.F.plainAttrs_str PySem.F.slot_str_index PySem.F.type_str_index mt_sindex ha (pa_cons hb pa_nil hs) hbase hfew hline hs hplain) fun σ H Q ⟨S, env, Qd, hS, hE, hh, hQ⟩ => by
  refine ⟨S, env, _, hS, hE, hh, fun v S1 H1 t O ⟨s, h1, q⟩ => ?_⟩
  obtain ⟨S2, e2, l2, a2⟩ := O.share
  rw [h1] at a2
  cases a2
  refine ⟨rfl, S2, env, _, e2.le, hE.mono e2.s, q, fun w S3 H3 u O3 ⟨z, h2, i, rest, h3, h4⟩ => ?_⟩
  · obtain ⟨S4, e4, l4, a4⟩ := O3.share
    rw [h2] at a4
    cases a4
    exact ⟨s, z, i, rest, rfl, rfl, h3, hQ _ S4 H3 _ ((Out.sh e4.le (.int _)).from (e2.trans e4)) h4⟩
/-- e.place, e an exception of the class n -/
theorem b_place {n : Str} (P : PlaceC X.K n) (ha : PB X a ba) (hb : attributeBase a "place" X.env (eval a X.env) = eval a X.env := by rfl) : PB X (.Attribute a "place" pos) (bPlace n ba) := by
  refine ⟨fun pins s σ H Q I ⟨S, env, Qd, hS, hE, hh, hQ⟩ => ?_⟩
  refine attr_of hb (thn (ha.run pins s σ H _ I ⟨S, env, _, hS, hE, hh, fun v S' H' t O q => (⟨S', t, O, q⟩ : ∃ S' t, Out X.K S H v t S' H' ∧ t.d.asP n fun p => Qd (.sh (plcD p)))⟩) fun u s1 hx => ?_)
  obtain ⟨x, H1, I1, rx, S1, t, O, q⟩ := hx
  obtain ⟨S2, e2, l2, a2⟩ := O.share
  generalize t.d = d at a2 q
  cases a2 with
  | @exc x2 dd c p h1 h2 =>
    cases p with
    | none => exact q.elim
    | some p =>
      obtain ⟨rfl, q⟩ := q
      obtain rfl : u = Value.ref x2 := rx
      obtain ⟨⟨oe, vs, g1, ⟨g2, g3⟩, g4⟩, _⟩ := (show ObjOk X.prog X.w H1 s1.heap x2 (ExV (.ref (He.ga X.K c)) dd x2) from I1.hok x2 _ (e2.le _ _ h1))
      have hp : ∃ d2 w, dd = some d2 ∧ S2 d2 = some (.xd [("place", w)]) ∧ At X.K S2 w (plcD p) := by
        cases p with
        | none => obtain ⟨d2, k1, k2⟩ := h2; exact ⟨d2, _, k1, k2, .non⟩
        | some i => obtain ⟨d2, k1, k2⟩ := h2; exact ⟨d2, _, k1, k2, .int i⟩
      obtain ⟨d2, w, rfl, k2, k3⟩ := hp
      obtain ⟨mA, hns, hr⟩ := (show ObjOk X.prog X.w H1 s1.heap d2 (.xd [("place", w)]) from I1.hok d2 _ (e2.le _ _ k2))
      obtain ⟨od, ho, hl⟩ := lookIn_ns hns
      obtain ⟨u2, hu, ru⟩ := RelO.some_of (v := w) (o := mA "place") (hr "place")
      have J : PySem.W.InstAt s1.heap x2 oe (He.ga X.K c) (some od) := ⟨g1, g2, by unfold PySem.W.notCls; rw [g4] <;> rfl, by rw [g3]; exact ho⟩
      exact PySem.HandSPX.exc_get I1.kIn J P.ex.hg P.ex.hk P.ex.hs (PySem.W.findObj_own P.ex.hd P.no rfl (by rw [hl, hu])) (handed_of ru) ⟨w, H1, I1.tok _, ru, hQ _ _ _ _ ((Out.sh e2.le k3).from e2) q⟩
  | _ => exact q.elim
/-! ### x[k].append(e), x a tuple of ours -/
theorem Own.tpAt {i : Nat} {ts : List T} (o : Own K S0 H0 S H σ env Lf) (h : nth env i = some (.tp ts)) : ∃ p xs, σ[i]? = some (some (.ref p)) ∧ SqT K S p xs ∧ Ress K S H xs ts (Lf i) ∧ i < env.length := by
  obtain ⟨v, h1, h2⟩ := o.slot i _ h
  generalize Lf i = L at h2
  cases h2 with
  | @tp p xs _ _ hp ha => exact ⟨p, xs, h1, hp, ha, by rw [← o.len]; exact (List.getElem?_eq_some_iff.mp h1).1⟩
def sTpAppAt (i : Nat) (bk be : BT) : DS := fun De env => ∃ ts, nth env i = some (.tp ts) ∧ bk (hide env) fun tk => asI tk fun k => ∃ j us, ixN ts.length k = some j ∧ ts[j]? = some (.ow us) ∧ us.length < 100000 ∧ be (hide env) fun t => De.nx (env.set i (some (.tp (ts.set j (.ow (us ++ [t.d]))))))
theorem s_tpAppAt (i : Nat) {x : Str} {npos spos : Pos} (hk : PB X c ba) (hm : PB X e be) (hN : X.N[i]? = some x := by rfl) (hv : Vis X.env.scope x := by first | exact Or.inl rfl | exact Or.inr (Or.inl rfl) | exact Or.inr (Or.inr rfl)) (hd : (x == ("__debug__" : Str)) = false := by decide)
    (hcd : (x == ("__classdict__" : Str)) = false := by decide) (hix : PlainIx c := by intro _ _; rfl) (hbase : attributeBase (.Subscript (.Name x npos) c spos) "append" X.env (eval (.Subscript (.Name x npos) c spos) X.env) = eval (.Subscript (.Name x npos) c spos) X.env := by rfl)
    (hfew : ((backTo cpos (starEach [e] X.env)).all (fun x => !x.1) && (backToKw cpos (keywordEach [] X.env)).all (fun x => x.1.isSome) && decide (([e] : List Expr).length + ([] : List Keyword).length + (if ([] : List Keyword).isEmpty then 0 else 1) < 30)) = true := by rfl)
    (hline : (apos.endLine == cpos.line) = true := by rfl) (hs : starEach [e] X.env = (false, eval e X.env) :: starEach [] X.env := by rfl) (hplain : (backTo cpos (starEach [] X.env)).any (·.1) = false := by rfl) :
    PSd X (.Expr (.Call (.Attribute (.Subscript (.Name x npos) c spos) "append" apos) [e] [] cpos) pos) (sTpAppAt i ba be) :=
  ps_weak (ps_expr (pe_bm PySem.F.plainAttrs_list PySem.F.slot_list_append PySem.F.type_list_append mt_append (pe_ix ix_tup (pe_var hN hv hd hcd) hk hix) (pa_cons hm pa_nil hs) hbase hfew hline hs hplain) rfl) fun D σ H ⟨S0, H0, S, env, Lf, De, o, ⟨ts, hi, hd⟩, n, b, c, r⟩ => by
  obtain ⟨p, xs, h1, hp, hr, hlen⟩ := o.tpAt hi
  refine ⟨.ref p, h1, S, hide env, _, o.ext.le, o.hid, hd, fun w S1 H1 tk O1 q1 => ?_⟩
  obtain ⟨S2, e2, l2, a2⟩ := O1.share
  obtain ⟨k, rfl, j, us, hj, hu, hl, q⟩ := asI_at q1
  cases a2
  have o2 := o.grow e2
  obtain ⟨q2, zs, k1, k2, k3, k4, k5⟩ := ress_at hr hu
  have at_ : atI xs k = some (.ref q2) := by
    unfold atI
    rw [hr.length, hj]
    exact k1
  refine ⟨p, xs, k, .ref q2, rfl, rfl, same_t (e2.s.trans e2.le) hp, at_, .inl ⟨rfl, zs, .inl (.inl (e2.h _ _ k3))⟩, S2, hide env, _, e2.le, o2.hid, q, fun v S' H' t O q => ?_⟩
  obtain ⟨ee, L, rr, ff⟩ := O
  obtain ⟨o3, a3, e3⟩ := (o2.grow ee).shareP rr (o2.pend rr ff)
  have m3 := hr.mono ((e2.s.trans ee.s).trans e3) fun a m => o.keepA (i := i) m (e2.h.trans ee.h)
  obtain ⟨q3, zs3, n1, n2, n3, n4, n5⟩ := ress_at m3 hu
  rw [k1] at n1
  cases n1
  refine ⟨q2, zs, v, rfl, rfl, ee.h _ _ (e2.h _ _ k3), by rw [k4.length]; exact lt_line hl, ?_⟩
  have key : Own X.K S0 H0 (shr S' H' L) (upd H' q2 (.lst (zs ++ [v]))) σ (env.set i (some (.tp (ts.set j (.ow (us ++ [t.d])))))) Lf := by
    refine o3.writeAt (v := .ref p) hlen h1 n2 ?_
    exact .tp (xs := xs) (same_t ((e2.s.trans ee.s).trans e3) hp) (n5 (o3.nod i) _ _ ((k4.mono ((e2.s.trans ee.s).trans e3)).append (.cons a3 .nil)))
  exact n _ _ σ _ Lf ((e2.s.trans ee.s).trans e3) key q
end
end W

/-! GP: a for of a reading, by itself (what follows it stays folded). -/
namespace W
open PySem L2
theorem sFor_mk {bi : BI} {tg : Tg} {body : DS} {De : DEnds} {env : List (Option T)} {α : Type} (xs : List α) (f : α → D) (I : List α → List (Option T) → Prop) (hbi : ∀ R : List D → Prop, R (xs.map f) → bi (hide env) R) (h0 : I [] env)
    (step : ∀ (N : List (Option T) → Prop) (ps : List α) (x : α) (qs : List α) (env' : List (Option T)), xs = ps ++ x :: qs → I ps env' → ∃ env1, tg.put (.sh (f x)) env' = some env1 ∧ body ⟨I (ps ++ [x]), De.rt, N, I (ps ++ [x]), De.xc⟩ env1)
    (fin : ∀ env', I xs env' → De.nx env') : sFor bi tg body De env := by
  unfold sFor
  exact hbi _ ⟨α, xs, f, I, rfl, h0, step De.nx, fin⟩
theorem sFor_ab {bi : BI} {tg : Tg} {body : DS} {De : DEnds} {env : List (Option T)} {α : Type} (xs : List α) (f : α → D) (I : List α → List (Option T) → Prop) (hbi : ∀ R : List D → Prop, R (xs.map f) → bi (hide env) R) (h0 : I [] env)
    (step : ∀ (E : DEnds) (ps : List α) (x : α) (qs : List α) (env' : List (Option T)), xs = ps ++ x :: qs → I ps env' → E.nx = I (ps ++ [x]) → ∃ env1, tg.put (.sh (f x)) env' = some env1 ∧ body E env1)
    (fin : ∀ env', I xs env' → De.nx env') : sFor bi tg body De env :=
  sFor_mk xs f I hbi h0 (fun N ps x qs env' e h => step _ ps x qs env' e h rfl) fin
end W

/-! GQ: a def that either answers or raises, by two readings; a class's __init__ that raises; an empty dict compared with itself. -/
namespace W
open PySem L2
theorem ss_never {X : Cx} {ss : List Stmt} : PSds X ss sNever := pss_weak pss_never fun D σ H ⟨_, _, _, _, _, _, _, h, _⟩ => h.elim
/-- one statement, two readings -/
def sOrD (d e : DS) : DS := fun De env => d De env ∨ e De env
theorem s_orD {X : Cx} {st : Stmt} {d e : DS} (h : PSd X st d) (k : PSd X st e) : PSd X st (sOrD d e) :=
  ⟨fun pins s σ H D I q => by
    obtain ⟨S0, H0, S, env, Lf, De, o, hd, r⟩ := q
    rcases hd with hd | hd
    · exact h.run pins s σ H D I ⟨S0, H0, S, env, Lf, De, o, hd, r⟩
    · exact k.run pins s σ H D I ⟨S0, H0, S, env, Lf, De, o, hd, r⟩⟩
section
variable {P : Program} {w : PySem.World} {K : PySem.W.Frag} {mg : Str → Option Value} {base : Heap} {j k : Nat} {x : Str}
/-- a def read twice: where it answers, where it raises -/
theorem cal_mkJ {params : Arguments} {body : List Stmt} {scope : Scope} {f : Addr} {fd : FuncData} {N ps : List Str} {sp : SpD} {spx : SpX} {dt dtx : DS}
    (F : FunD K x x params body scope [] [] f fd) (hm : mg x = some (.ref f)) (b : Binds K fd ps []) (S : FnScope N ps scope) (len : ∀ ds Q, sp ds Q → ds.length = ps.length) (lenx : ∀ ds Q E, spx ds Q E → ds.length = ps.length)
    (hbody : ∀ (cdv : Value) (A : Around) (outer : List PySem.Env) (s : Shared) (H : Hp) (E : XK), Room k (A.deeper (PyProof.Rows.envOfC x scope s.heap.objs.size f cdv)) → PSds (cxOf (L2.CX P w) P w K mg base N x scope f cdv A outer s H E) body dt)
    (hd : ∀ ds Q, sp ds Q → dt (ends0 Q) (env0 N.length ds))
    (hbodyx : ∀ (cdv : Value) (A : Around) (outer : List PySem.Env) (s : Shared) (H : Hp) (E : XK), Room k (A.deeper (PyProof.Rows.envOfC x scope s.heap.objs.size f cdv)) → PSds (cxOf (L2.CX P w) P w K mg base N x scope f cdv A outer s H E) body dtx)
    (hdx : ∀ ds Q E, spx ds Q E → dtx (endsX Q E) (env0 N.length ds)) : CalX P w K mg base (k + 1) x (fun ds Q E => sp ds Q ∨ spx ds Q E) := by
  refine ⟨f, fd, ps, F.ok S (fun vs H Q E h => ?_) (fun cdv A outer s H vs Q E hr h => ?_), hm, F.kp, b⟩
  · obtain ⟨S', ds, Qd, Ed, e, a, h, _⟩ := h
    rw [a.length]
    rcases h with h | h
    · exact len ds Qd h
    · exact lenx ds Qd Ed h
  · obtain ⟨S', ds, Qd, Ed, e, a, h, k, kx⟩ := h
    rcases h with h | h
    · refine ⟨sOf _ dt, hbody cdv A outer s H E hr, ?_⟩
      refine ⟨S', H, S', env0 N.length ds, fun _ => [], ends0 Qd, own_start e a, hd ds Qd h, fun S2 H2 σ2 env2 Lf2 _ o q => ?_, fun _ _ _ _ _ _ _ q => q.elim, fun _ _ _ _ _ _ _ q => q.elim, fun v S2 H2 σ2 env2 Lf2 t L o r p q => k v S2 H2 t (o.out r p) q, fun S2 H2 σ2 env2 Lf2 cls dx xn _ o xa q => q.elim⟩
      exact k .non S2 H2 _ ((Out.sh o.ext.le .non).from o.ext) q
    · refine ⟨sOf _ dtx, hbodyx cdv A outer s H E hr, ?_⟩
      refine ⟨S', H, S', env0 N.length ds, fun _ => [], endsX Qd Ed, own_start e a, hdx ds Qd Ed h, fun S2 H2 σ2 env2 Lf2 _ o q => ?_, fun _ _ _ _ _ _ _ q => q.elim, fun _ _ _ _ _ _ _ q => q.elim, fun v S2 H2 σ2 env2 Lf2 t L o r p q => k v S2 H2 t (o.out r p) q, fun S2 H2 σ2 env2 Lf2 cls dx xn _ o xa q => ?_⟩
      · exact k .non S2 H2 _ ((Out.sh o.ext.le .non).from o.ext) q
      · exact Wx_of (W := fun cls d _ H => E cls d H) (takes_of rfl rfl rfl rfl) (kx cls dx S2 H2 xn o.ext xa q)
theorem CalX.imp {sp sp' : SpX} (c : CalX P w K mg base k x sp) (h : ∀ ds Q E, sp' ds Q E → sp ds Q E) : CalX P w K mg base k x sp' := by
  obtain ⟨f, fd, ps, F, r⟩ := c.ex
  exact ⟨f, fd, ps, F.imp fun vs H Q E ⟨S, ds, Qd, Ed, a1, a2, a3, a4⟩ => ⟨S, ds, Qd, Ed, a1, a2, h _ _ _ a3, a4⟩, r⟩
/-! ### a class's __init__ that raises -/
abbrev anyD : D := .abs fun _ _ => True
abbrev ISpX := D → (Xn → Prop) → Prop
def spIX (sp : ISpX) : SpX := fun ds _ E => ∃ d, ds = [anyD, d] ∧ sp d E
structure MakeX (P : Program) (w : PySem.World) (K : PySem.W.Frag) (mg : Str → Option Value) (base : Heap) (k : Nat) (c : Str) (sp : ISpX) : Prop where
  ex : ∃ (fd : FuncData) (ps : List Str), FnOk P w K mg base (L2.CX P w) k (He.ma K (He.ga K c) "__init__") fd ps (spOfX K mg (spIX sp)) ∧ Mk K (He.ga K c) (He.ma K (He.ga K c) "__init__") ∧ Binds K fd ps []
theorem MakeX.mono {c : Str} {sp : ISpX} (m : MakeX P w K mg base j c sp) (h : j ≤ k) : MakeX P w K mg base k c sp := by
  obtain ⟨fd, ps, F, r⟩ := m.ex
  exact ⟨fd, ps, F.mono h, r⟩
theorem makeX_mk {c q : Str} {params : Arguments} {body : List Stmt} {scope : Scope} {fd : FuncData} {N ps : List Str} {sp : ISpX} {dtx : DS}
    (F : FunD K x q params body scope [] [] (He.ma K (He.ga K c) "__init__") fd) (M : Mk K (He.ga K c) (He.ma K (He.ga K c) "__init__")) (b : Binds K fd ps []) (S : FnScope N ps scope) (hp : ps.length = 2)
    (hbody : ∀ (cdv : Value) (A : Around) (outer : List PySem.Env) (s : Shared) (H : Hp) (E : XK), Room k (A.deeper (PyProof.Rows.envOfC q scope s.heap.objs.size (He.ma K (He.ga K c) "__init__") cdv)) → PSds (cxOf (L2.CX P w) P w K mg base N q scope (He.ma K (He.ga K c) "__init__") cdv A outer s H E) body dtx)
    (hd : ∀ d E, sp d E → dtx (endsX (fun _ => False) E) (env0 N.length [anyD, d])) : MakeX P w K mg base (k + 1) c sp := by
  refine ⟨fd, ps, F.ok S (fun vs H Q E h => ?_) (fun cdv A outer s H vs Q E hr h => ?_), M, b⟩
  · obtain ⟨S', ds, Qd, Ed, e, a, ⟨d, rfl, h⟩, _⟩ := h
    rw [a.length, hp]
    rfl
  · obtain ⟨S', ds, Qd, Ed, e, a, ⟨d, rfl, h⟩, k, kx⟩ := h
    refine ⟨sOf _ dtx, hbody cdv A outer s H E hr, ?_⟩
    refine ⟨S', H, S', env0 N.length [anyD, d], fun _ => [], endsX (fun _ => False) Ed, own_start e a, hd d Ed h, fun S2 H2 σ2 env2 Lf2 _ o q => q.elim, fun _ _ _ _ _ _ _ q => q.elim, fun _ _ _ _ _ _ _ q => q.elim, fun v S2 H2 σ2 env2 Lf2 t L o r p q => q.elim, fun S2 H2 σ2 env2 Lf2 cls dx xn _ o xa q => ?_⟩
    exact Wx_of (W := fun cls d _ H => E cls d H) (takes_of rfl rfl rfl rfl) (kx cls dx S2 H2 xn o.ext xa q)
end
section
variable {X : Cx} {CX : CXT} {k : Nat} {f C : Addr} {fd : FuncData} {ps : List Str} {sp : Sp} {E : L2.St → XK} {x : Str} {p pos pos2 : Pos} {a e : Expr} {es : List Expr} {t : TA} {ba : BT}
theorem run_makeS {pins : List (Addr × Obj)} {σ : L2.St} {H : Hp} {s : Shared} {Q : VK} {us : List Value} {vs : List V} (M : Mk X.K C f) (F : FnOk X.prog X.w X.K X.mg X.base CX k f fd ps sp) (hr : Room (k + 1) X.A) (hb : Binds X.K fd ps []) (hx : PassesAt CX X σ (E σ)) (I : Inv X pins σ H s) (r : Vals vs us)
    (h : ∀ x dx, H x = none → H dx = none → dx ≠ x → sp (.ref x :: vs) (upd (upd H dx (.own x)) x (.ins C dx [])) (fun v H2 => v = .non ∧ Q (.ref x) H2) (E σ)) : wpAny (model X.prog X.w) X.A (call (.ref C) us) (EP X pins σ Q) X.xe s := by
  have hq := h (s.heap.objs.size + 1) s.heap.objs.size (I.hok.fresh (Nat.le_succ _)) (I.hok.fresh (Nat.le_refl _)) (Nat.ne_of_lt (Nat.lt_succ_self _))
  have I2 := Inv.made (C := C) I
  have r2 : Vals (V.ref (s.heap.objs.size + 1) :: vs) (Value.ref (s.heap.objs.size + 1) :: us) := .cons rfl r
  have hl : (Value.ref (s.heap.objs.size + 1) :: us ++ []).length = ps.length := by
    have e := r2.length
    rw [F.len _ _ _ _ hq] at e
    rw [List.append_nil]
    exact e.symm
  have bb := hb _ (Value.ref (s.heap.objs.size + 1) :: us) I2.kIn hl
  rw [List.append_nil] at bb
  refine wpAny_call (make_map (f := f) I.kIn M.makes M.init (beq_iff_eq.mp M.fn) (codeAny_mono (F.run _ X.stack _ _ ⟨Value.ref (s.heap.objs.size + 1) :: us, []⟩ (Value.ref (s.heap.objs.size + 1) :: us) _ _ (E σ) (hr.make C us []) (I2.env0.make C us []) bb r2 hq) fun r s' hq' => ?_))
  cases r with
  | error e => exact hx pins _ _ e s' I2 hq'
  | ok fl =>
    cases fl with
    | ret u =>
      obtain ⟨v, H', I3, rv, ev, q3⟩ := I2.after hq'
      subst ev
      exact ⟨rv, ⟨V.ref (s.heap.objs.size + 1), H', I3, rfl, q3⟩⟩
    | next => exact False.elim hq'
    | brk => exact False.elim hq'
    | cont => exact False.elim hq'
theorem pe_makeS (M : Mk X.K C f) (F : FnOk X.prog X.w X.K X.mg X.base CX k f fd ps sp) (hr : Room (k + 1) X.A) (hg : Gl X x) (hm : X.mg x = some (.ref C)) (hb : Binds X.K fd ps []) (hx : ∀ σ, PassesAt CX X σ (E σ))
    (ha : PA X (e :: es) t) (hdb : (x == ("__debug__" : Str)) = false := by decide) (he : starEach (e :: es) X.env = (false, eval e X.env) :: starEach es X.env := by rfl) (hpl : (backTo pos (starEach es X.env)).any (·.1) = false := by rfl) :
    PE X (.Call (.Name x p) (e :: es) [] pos) (fun σ H Q => t σ H fun vs H1 => ∀ x dx, H1 x = none → H1 dx = none → dx ≠ x → sp (.ref x :: vs) (upd (upd H1 dx (.own x)) x (.ins C dx [])) (fun v H2 => v = .non ∧ Q (.ref x) H2) (E σ)) := by
  refine ⟨fun pins s σ H Q I h => ?_⟩
  refine wpAny_Call_Name_kw (ld_glob I hg hm ?_ hdb)
  refine PySem.W.callWith_K (h₀ := X.base) I.ok.mod.kin M.kp (thn (ha.run pos pins s σ H _ I h) fun us s1 ⟨vs, H1, I1, r, q⟩ => ⟨I1.kIn, ?_⟩) he hpl
  exact run_makeS M F hr hb (hx σ) I1 r q
/-- C(e) as a statement; it raises -/
def sMakeX (sp : ISpX) (ba : BT) : DS := fun De env => ba (hide env) fun t => sp t.d fun xn => De.xc xn env
theorem s_makeX {c : Str} {sp : ISpX} (hmg : X.mg c = some (.ref (He.ga X.K c))) (m : MakeX X.prog X.w X.K X.mg X.base k c sp) (hr : Room (k + 1) X.A) (hg : Gl X c) (ha : PB X a ba) (hdb : (c == ("__debug__" : Str)) = false := by decide)
    (he : starEach [a] X.env = (false, eval a X.env) :: starEach [] X.env := by rfl) (hpl : (backTo pos (starEach [] X.env)).any (·.1) = false := by rfl) (hs : swapsWith (.Call (.Name c p) [a] [] pos) none pos2.line X.env = pure false := by rfl) :
    PSd X (.Expr (.Call (.Name c p) [a] [] pos) pos2) (sMakeX sp ba) := by
  obtain ⟨fd, ps, F, M, b⟩ := m.ex
  refine ps_weak (ps_expr (pe_makeS (E := WE (Wx X)) M F hr hg hmg b (fun σ => passAt (takes_Wx X) σ) (pa_cons ha pa_nil he) hdb he hpl) hs) fun D σ H ⟨S0, H0, S, env, Lf, De, o, hd, n, bb, cc, r⟩ => ?_
  refine ⟨S, hide env, _, o.ext.le, o.hid, hd, fun v S1 H1 t O q x dx hx hdx hne => ?_⟩
  obtain ⟨S2, e2, l2, a2⟩ := O.share
  have nx : S2 x = none := Same.none e2.le hx
  have nd : S2 dx = none := Same.none e2.le hdx
  have le : Same H1 (upd (upd H1 dx (.own x)) x (.ins (He.ga X.K c) dx [])) := fun b u h => by rw [upd_ne (ne_of_none h hx), upd_ne (ne_of_none h hdx)]; exact h
  have ee : Ext S2 H1 S2 (upd (upd H1 dx (.own x)) x (.ins (He.ga X.K c) dx [])) := ⟨.refl _, le, e2.le.trans le, fun _ _ _ => rfl⟩
  refine ⟨S2, [anyD, t.d], fun _ => False, _, ee.le, .cons (.abs fun _ _ => trivial) (.cons a2 .nil), ⟨_, rfl, q⟩, fun _ _ _ _ _ z => z.elim, fun cls d S' H' xn e' xa q' => ?_⟩
  exact r.2 S' H' σ env Lf cls d xn (e2.s.trans e'.s) (o.grow ((e2.trans ee).trans e')) xa q'
end
/-! ### an empty dict compared with itself -/
section
variable {X : Cx}
theorem op_ne_dt0 (hu : X.A.units < cLine) : OpR X (compareOp .NotEq) (fun x y H Q => ∃ a b, x = .ref a ∧ y = .ref b ∧ H a = some (.dT []) ∧ H b = some (.dT []) ∧ Q (.bl false) H) := by
  intro pins s σ H x y v u Q I rx ry h
  obtain ⟨a, b, rfl, rfl, ea, eb, q⟩ := h
  obtain rfl : v = Value.ref a := rx
  obtain rfl : u = Value.ref b := ry
  have dk : ∀ c, H c = some (.dT []) → ObjOk X.prog X.w H s.heap c (.dK []) := fun c ec => by
    obtain ⟨z, y, xs, r, o, es, ep, h1, h2, h3, h4, h5⟩ := (show ObjOk X.prog X.w H s.heap c (.dT []) from I.hok c _ ec)
    cases r
    have he : es = #[] := Array.toList_eq_nil_iff.mp h4
    subst he
    exact ⟨z, y, [], .nil, ⟨o, #[], ep, h1, h2, h3, fun e m => by simp at m, .nil, List.nodup_nil⟩⟩
  obtain ⟨_, ya, va, ra, da⟩ := dk a ea
  obtain ⟨_, yb, vb, rb, db⟩ := dk b eb
  have hl : va.length = vb.length := by rw [← ra.length, ← rb.length]
  exact PySem.W.keq_ne (knd := mixKind X.prog X.w) (r := true) ya yb da db hu (fun _ => hits_all rb ra (fun _ m => by cases m)) (fin_bl I q (by simp [hl]))
def fNeD : F2 := fun d e Q => (d = .dt [] ∧ e = .dt [] ∧ Q (.sh (.bl false))) ∨ fNe d e Q
theorem o_neD (hu : X.A.units + 64 < cLine) : OpD X (compareOp .NotEq) fNeD := by
  obtain ⟨r, h1, h2⟩ := o_ne (X := X) hu
  refine ⟨fun x y H Q => (∃ a b, x = .ref a ∧ y = .ref b ∧ H a = some (.dT []) ∧ H b = some (.dT []) ∧ Q (.bl false) H) ∨ r x y H Q, ?_, ?_⟩
  · intro pins s σ H x y v u Q I rx ry h
    rcases h with h | h
    · exact op_ne_dt0 (by omega) pins s σ H x y v u Q I rx ry h
    · exact h1 pins s σ H x y v u Q I rx ry h
  · intro S H v w d e Q Qd hS a1 a2 hf hQ
    rcases hf with ⟨rfl, rfl, q⟩ | hf
    · cases a1 with
      | dt g1 =>
        cases a2 with
        | dt g2 => exact .inl ⟨_, _, rfl, rfl, hS _ _ g1, hS _ _ g2, hQ _ S H _ (.sh hS (.bl _)) q⟩
    · exact .inr (h2 S H v w d e Q Qd hS a1 a2 hf hQ)
end
end W

/-! GR: methods that raise and change nothing; a dict 'lines', 'web': read, made, its web changed; what changes compared. -/
namespace W
open PySem L2
/-! ### methods that raise -/
structure MethX (P : Program) (w : PySem.World) (K : PySem.W.Frag) (mg : Str → Option Value) (base : Heap) (k : Nat) (m : Str) (sp : SpX) : Prop where
  ex : ∃ (fd : FuncData) (ps : List Str), FnOk P w K mg base (L2.CX P w) k (He.ma K (He.ga K "Bench") m) fd ps (spOfX K mg sp) ∧ Meth K (He.ga K "Bench") m (He.ma K (He.ga K "Bench") m) ∧ Binds K fd ps []
theorem MethX.mono {P : Program} {w : PySem.World} {K : PySem.W.Frag} {mg : Str → Option Value} {base : Heap} {j k : Nat} {m : Str} {sp : SpX} (c : MethX P w K mg base j m sp) (h : j ≤ k) : MethX P w K mg base k m sp := by
  obtain ⟨fd, ps, F, r⟩ := c.ex
  exact ⟨fd, ps, F.mono h, r⟩
theorem methX_mk {P : Program} {w : PySem.World} {K : PySem.W.Frag} {mg : Str → Option Value} {base : Heap} {x q : Str} {params : Arguments} {body : List Stmt} {scope : Scope} {fd : FuncData} {N ps : List Str} {k : Nat} {sp : SpX} {dt : DS}
    (F : FunD K x q params body scope [] [] (He.ma K (He.ga K "Bench") x) fd) (M : Meth K (He.ga K "Bench") x (He.ma K (He.ga K "Bench") x)) (b : Binds K fd ps []) (S : FnScope N ps scope) (len : ∀ ds Q E, sp ds Q E → ds.length = ps.length)
    (hbody : ∀ (cdv : Value) (A : Around) (outer : List PySem.Env) (s : Shared) (H : Hp) (E : XK), Room k (A.deeper (PyProof.Rows.envOfC q scope s.heap.objs.size (He.ma K (He.ga K "Bench") x) cdv)) → PSds (cxOf (L2.CX P w) P w K mg base N q scope (He.ma K (He.ga K "Bench") x) cdv A outer s H E) body dt)
    (hd : ∀ ds Q E, sp ds Q E → dt (endsX Q E) (env0 N.length ds)) : MethX P w K mg base (k + 1) x sp := by
  refine ⟨fd, ps, F.ok S (fun vs H Q E h => ?_) (fun cdv A outer s H vs Q E hr h => ?_), M, b⟩
  · obtain ⟨S', ds, Qd, Ed, e, a, h, _⟩ := h
    rw [a.length]
    exact len ds Qd Ed h
  · obtain ⟨S', ds, Qd, Ed, e, a, h, k, kx⟩ := h
    refine ⟨sOf _ dt, hbody cdv A outer s H E hr, ?_⟩
    refine ⟨S', H, S', env0 N.length ds, fun _ => [], endsX Qd Ed, own_start e a, hd ds Qd Ed h, fun S2 H2 σ2 env2 Lf2 _ o q => ?_, fun _ _ _ _ _ _ _ q => q.elim, fun _ _ _ _ _ _ _ q => q.elim, fun v S2 H2 σ2 env2 Lf2 t L o r p q => k v S2 H2 t (o.out r p) q, fun S2 H2 σ2 env2 Lf2 cls dx xn _ o xa q => ?_⟩
    · exact k .non S2 H2 _ ((Out.sh o.ext.le .non).from o.ext) q
    · exact Wx_of (W := fun cls d _ H => E cls d H) (takes_of rfl rfl rfl rfl) (kx cls dx S2 H2 xn o.ext xa q)
section
variable {X : Cx} {CX : CXT} {k : Nat} {f C : Addr} {fd : FuncData} {ps : List Str} {sp : Sp} {E : L2.St → XK} {x m : Str} {p pos pos2 apos : Pos} {a b e o : Expr} {es : List Expr} {ta : TE} {t : TA} {ba be bb : BT} {bs : BA} {bm bn : BM}
theorem pe_methS {pl : Sem Bool} (he : PE X o ta) (c : Cls X.K C) (hm : Meth X.K C m f) (F : FnOk X.prog X.w X.K X.mg X.base CX k f fd ps sp) (hr : Room k X.A) (hb : Binds X.K fd ps []) (hx : ∀ σ, PassesAt CX X σ (E σ)) (ha : PA X (e :: es) t)
    (hst : starEach (e :: es) X.env = (false, eval e X.env) :: starEach es X.env := by rfl) (hpl : (backTo pos (starEach es X.env)).any (·.1) = false := by rfl)
    (ht : eval (.Call (.Attribute o m apos) (e :: es) [] pos) X.env = (do
      let ov ← eval o X.env
      standAt apos.atName
      let (f, first) ← holding [ov] (getMethod ov m pl)
      callWith pos f first (backTo pos (starEach (e :: es) X.env)) (backToKw pos (keywordEach [] X.env))) := by rfl) :
    PE X (.Call (.Attribute o m apos) (e :: es) [] pos) (fun σ H Q => ta σ H fun x H1 => ∃ a dx fs, x = .ref a ∧ H1 a = some (.ins C dx fs) ∧ fs.lookup m = none ∧ t σ H1 fun vs H2 => sp (x :: vs) H2 Q (E σ)) := by
  refine ⟨fun pins s σ H Q I h => ?_⟩
  refine PySem.W.methodCall_KW (pl := pl) (thn (he.run pins s σ H _ I h) fun u s1 ⟨x, H1, I1, rx, a, dx, fs, ex, ea, l, q⟩ => ?_) ht
  subst ex
  obtain rfl : u = Value.ref a := rx
  refine getmeth_ok I1 ea c hm l ?_
  refine PySem.W.callWith_K (first := [.ref a]) (h₀ := X.base) I.ok.mod.kin hm.kp (thn (ha.run pos pins s1 σ H1 _ I1 q) fun us s2 ⟨vs, H2, I2, r, q2⟩ => ⟨I2.kIn, ?_⟩) hst hpl
  exact run_fnS (us := .ref a :: us) (vs := .ref a :: vs) F hr hb (hx σ) I2 (.cons rfl r) q2
theorem pe_methS0 {pl : Sem Bool} (he : PE X o ta) (c : Cls X.K C) (hm : Meth X.K C m f) (F : FnOk X.prog X.w X.K X.mg X.base CX k f fd ps sp) (hr : Room k X.A) (hb : Binds X.K fd ps []) (hx : ∀ σ, PassesAt CX X σ (E σ))
    (ht : eval (.Call (.Attribute o m apos) [] [] pos) X.env = (do
      let ov ← eval o X.env
      standAt apos.atName
      let (f, first) ← holding [ov] (getMethod ov m pl)
      callWith pos f first (backTo pos (starEach [] X.env)) (backToKw pos (keywordEach [] X.env))) := by rfl) :
    PE X (.Call (.Attribute o m apos) [] [] pos) (fun σ H Q => ta σ H fun x H1 => ∃ a dx fs, x = .ref a ∧ H1 a = some (.ins C dx fs) ∧ fs.lookup m = none ∧ sp [x] H1 Q (E σ)) := by
  refine ⟨fun pins s σ H Q I h => ?_⟩
  refine PySem.W.methodCall_KW (pl := pl) (thn (he.run pins s σ H _ I h) fun u s1 ⟨x, H1, I1, rx, a, dx, fs, ex, ea, l, q⟩ => ?_) ht
  subst ex
  obtain rfl : u = Value.ref a := rx
  refine getmeth_ok I1 ea c hm l ?_
  exact PySem.W.callWith_K0 (first := [.ref a]) I1.kIn hm.kp (run_fnS (us := [.ref a]) (vs := [.ref a]) F hr hb (hx σ) I1 (.cons rfl .nil) q)
/-- x.m(..) as a statement; it may raise, it changes nothing -/
def sMethX (sp : SpX) (bo : BT) (bs : BA) : DS := fun De env => bo (hide env) fun t => t.d.isBn = true ∧ bs (hide env) fun ts => sp (t.d :: T.ds ts) (fun _ => De.nx env) fun xn => De.xc xn env
theorem s_methX {sp : SpX} {pl : Sem Bool} (B : BnC X.K X.mg) (c : MethX X.prog X.w X.K X.mg X.base k m sp) (hr : Room k X.A) (ho : PB X o be) (ha : PAb X (a :: es) bs)
    (h1 : (m == ("lines" : Str)) = false := by decide) (h2 : (m == ("laid" : Str)) = false := by decide) (h3 : (m == ("past" : Str)) = false := by decide)
    (hst : starEach (a :: es) X.env = (false, eval a X.env) :: starEach es X.env := by rfl) (hpl : (backTo pos (starEach es X.env)).any (·.1) = false := by rfl)
    (ht : eval (.Call (.Attribute o m apos) (a :: es) [] pos) X.env = (do
      let ov ← eval o X.env
      standAt apos.atName
      let (f, first) ← holding [ov] (getMethod ov m pl)
      callWith pos f first (backTo pos (starEach (a :: es) X.env)) (backToKw pos (keywordEach [] X.env))) := by rfl)
    (hs : swapsWith (.Call (.Attribute o m apos) (a :: es) [] pos) none pos2.line X.env = pure false := by rfl) :
    PSd X (.Expr (.Call (.Attribute o m apos) (a :: es) [] pos) pos2) (sMethX sp be bs) := by
  obtain ⟨fd, ps, F, M, b⟩ := c.ex
  refine ps_weak (ps_expr (pe_methS (pl := pl) (E := WE (Wx X)) ho B.cls M F hr b (fun σ => passAt (takes_Wx X) σ) ha hst hpl ht) hs) fun D σ H ⟨S0, H0, S, env, Lf, De, o, hd, n, bb, cc, r⟩ => ?_
  refine ⟨S, hide env, _, o.ext.le, o.hid, hd, fun v S1 H1 t O ⟨hb, q⟩ => ?_⟩
  obtain ⟨S2, e2, l2, a2⟩ := O.share
  generalize hd2 : t.d = d at a2 q hb
  cases a2 with
  | bn g1 g2 g3 g4 g5 =>
    refine ⟨_, _, _, rfl, e2.le _ _ g1, bnF_no h1 h2 h3, S2, hide env, _, e2.le, (o.grow e2).hid, q, fun vs S3 H3 ts O3 q3 => ?_⟩
    obtain ⟨S4, e4, _, a4⟩ := O3.share
    refine ⟨S4, _, _, _, e4.le, .cons (At.mono e4.s (.bn g1 g2 g3 g4 g5)) a4, q3, fun v' S' H' t' O' q' => n S' H' σ env Lf (e2.s.trans (e4.s.trans O'.1.s)) (o.grow ((e2.trans e4).trans O'.1)) q',
      fun cls dx S' H' xn e' xa q' => r.2 S' H' σ env Lf cls dx xn (e2.s.trans (e4.s.trans e'.s)) (o.grow ((e2.trans e4).trans e')) xa q'⟩
  | _ => cases hb
def sMethX0 (sp : SpX) (bo : BT) : DS := fun De env => bo (hide env) fun t => t.d.isBn = true ∧ sp [t.d] (fun _ => De.nx env) fun xn => De.xc xn env
theorem s_methX0 {sp : SpX} {pl : Sem Bool} (B : BnC X.K X.mg) (c : MethX X.prog X.w X.K X.mg X.base k m sp) (hr : Room k X.A) (ho : PB X o be)
    (h1 : (m == ("lines" : Str)) = false := by decide) (h2 : (m == ("laid" : Str)) = false := by decide) (h3 : (m == ("past" : Str)) = false := by decide)
    (ht : eval (.Call (.Attribute o m apos) [] [] pos) X.env = (do
      let ov ← eval o X.env
      standAt apos.atName
      let (f, first) ← holding [ov] (getMethod ov m pl)
      callWith pos f first (backTo pos (starEach [] X.env)) (backToKw pos (keywordEach [] X.env))) := by rfl)
    (hs : swapsWith (.Call (.Attribute o m apos) [] [] pos) none pos2.line X.env = pure false := by rfl) :
    PSd X (.Expr (.Call (.Attribute o m apos) [] [] pos) pos2) (sMethX0 sp be) := by
  obtain ⟨fd, ps, F, M, b⟩ := c.ex
  refine ps_weak (ps_expr (pe_methS0 (pl := pl) (E := WE (Wx X)) ho B.cls M F hr b (fun σ => passAt (takes_Wx X) σ) ht) hs) fun D σ H ⟨S0, H0, S, env, Lf, De, o, hd, n, bb, cc, r⟩ => ?_
  refine ⟨S, hide env, _, o.ext.le, o.hid, hd, fun v S1 H1 t O ⟨hb, q⟩ => ?_⟩
  obtain ⟨S2, e2, l2, a2⟩ := O.share
  generalize hd2 : t.d = d at a2 q hb
  cases a2 with
  | bn g1 g2 g3 g4 g5 =>
    refine ⟨_, _, _, rfl, e2.le _ _ g1, bnF_no h1 h2 h3, S2, _, _, _, e2.le, .cons (.bn g1 g2 g3 g4 g5) .nil, q, fun v' S' H' t' O' q' => n S' H' σ env Lf (e2.s.trans O'.1.s) (o.grow (e2.trans O'.1)) q',
      fun cls dx S' H' xn e' xa q' => r.2 S' H' σ env Lf cls dx xn (e2.s.trans e'.s) (o.grow (e2.trans e')) xa q'⟩
  | _ => cases hb
end
/-! ### the dict -/
theorem mdV_lines {n : Int} {l : Addr} : valV (mdV n l) (Sum.inr ("lines" : Str)) = some (V.int n) := by rfl
theorem mdV_web {n : Int} {l : Addr} : valV (mdV n l) (Sum.inr ("web" : Str)) = some (V.ref l) := by rfl
def D.mdS (d : D) (k : Int → List D → Prop) : Prop := match d with
  | .md n web => k n web
  | _ => False
theorem mdS_md {n : Int} {web : List D} {k : Int → List D → Prop} : (D.md n web).mdS k = k n web := rfl
theorem mdS_of {d : D} {k : Int → List D → Prop} (h : d.mdS k) : ∃ n web, d = .md n web ∧ k n web := by
  unfold D.mdS at h
  split at h
  · exact ⟨_, _, rfl, h⟩
  · exact h.elim
def D.mdN (d : D) (k : Int → Prop) : Prop := match d with
  | .md n _ => k n
  | .mdn n => k n
  | _ => False
theorem mdN_md {n : Int} {web : List D} {k : Int → Prop} : (D.md n web).mdN k = k n := rfl
theorem mdN_mdn {n : Int} {k : Int → Prop} : (D.mdn n).mdN k = k n := rfl
def bMLines (b : BT) : BT := fun env Q => b env fun t => t.d.mdN fun n => Q (.sh (.int n))
def bMWeb (b : BT) : BT := fun env Q => b env fun t => t.d.mdS fun _ web => Q (.sh (.lst web))
section
variable {X : Cx} {K : PySem.W.Frag} {a b c e o : Expr} {es : List Expr} {ba bb be : BT} {bs : BA} {bm bn : BM} {pos p2 p3 apos cpos spos : Pos} {j : Nat} {S0 H0 S H S' H' : Hp} {σ : L2.St} {env : List (Option T)} {Lf : Nat → List Addr}
theorem b_mlines (hu : X.A.units + 1 < cLine) (ho : PB X o be) (hs : NoSl (.Constant (.str "lines") j p2) := by intro _ _; rfl) : PB X (.Subscript o (.Constant (.str "lines") j p2) pos) (bMLines be) :=
  pe_weak (pe_dget hu ho (pe_str (x := "lines")) hs) fun σ H Q ⟨S, env, Qd, hS, hE, hh, hQ⟩ => by
  refine ⟨S, env, _, hS, hE, hh, fun v S1 H1 t O q => ?_⟩
  obtain ⟨S2, e2, l2, a2⟩ := O.share
  generalize t.d = d at a2 q
  cases a2 with
  | md h1 h2 h3 => exact ⟨_, _, rfl, .inl ⟨mdV _ _, Sum.inr "lines", .inl (e2.le _ _ h1), rfl, mdV_lines.symm⟩, hQ _ _ _ _ ((Out.sh e2.le (.int _)).from e2) q⟩
  | mdn h1 => exact ⟨_, _, rfl, .inl ⟨mdV _ _, Sum.inr "lines", .inl (e2.le _ _ h1), rfl, mdV_lines.symm⟩, hQ _ _ _ _ ((Out.sh e2.le (.int _)).from e2) q⟩
  | _ => exact q.elim
theorem b_mweb (hu : X.A.units + 1 < cLine) (ho : PB X o be) (hs : NoSl (.Constant (.str "web") j p2) := by intro _ _; rfl) : PB X (.Subscript o (.Constant (.str "web") j p2) pos) (bMWeb be) :=
  pe_weak (pe_dget hu ho (pe_str (x := "web")) hs) fun σ H Q ⟨S, env, Qd, hS, hE, hh, hQ⟩ => by
  refine ⟨S, env, _, hS, hE, hh, fun v S1 H1 t O q => ?_⟩
  obtain ⟨n, web, hd, q⟩ := mdS_of q
  obtain ⟨S2, e2, l2, a2⟩ := O.share
  rw [hd] at a2
  cases a2 with
  | md h1 h2 h3 => exact ⟨_, _, rfl, .inl ⟨mdV _ _, Sum.inr "web", .inl (e2.le _ _ h1), rfl, mdV_web.symm⟩, hQ _ _ _ _ ((Out.sh e2.le (.lst h2 h3)).from e2) q⟩
end
end W

/-! GS: what changes something of ours: compared, asked of its class, as a test; the dict 'lines', 'web' made and changed. -/
namespace W
open PySem L2
section
variable {X : Cx} {K : PySem.W.Frag} {a b c e o : Expr} {es : List Expr} {ba bb be : BT} {bs : BA} {bm bn : BM} {pos p2 p3 apos cpos spos : Pos} {j : Nat} {S0 H0 S H S' H' : Hp} {σ : L2.St} {env : List (Option T)} {Lf : Nat → List Addr}
/-! ### compared -/
def mOp (f : F2) (bm bn : BM) : BM := fun env Q => bm env fun t1 env1 => bn env1 fun t2 env2 => f t1.d t2.d fun t => Q (.sh t.d) env2
theorem mop_ref {r : R2} {f : F2} (h2 : RefR2 K r f) {H : Hp} {Q : VK} (h : mOf K (mOp f bm bn) σ H Q) : tOp r (mOf K bm) (mOf K bn) σ H Q := by
  obtain ⟨S0, H0, S, env, Lf, Qd, o, hb, hQ⟩ := h
  refine ⟨S0, H0, S, env, Lf, _, o, hb, fun v1 S1 H1 t1 L1 env1 Lf1 e1 o1 r1 p1 k1 q1 => ?_⟩
  obtain ⟨o1s, a1, e1s⟩ := o1.shareP r1 p1
  refine ⟨S0, H0, shr S1 H1 L1, env1, Lf1, _, o1s, q1, fun v2 S2 H2 t2 L2 env2 Lf2 e2 o2 r2 p2 k2 q2 => ?_⟩
  obtain ⟨o2s, a2, e2s⟩ := o2.shareP r2 p2
  refine h2 (shr S2 H2 L2) H2 v1 v2 _ _ Q _ o2s.ext.le ((a1.mono e2).mono e2s) a2 q2 fun u S3 H3 t O q => ?_
  obtain ⟨S4, e4, l4, a4⟩ := O.share
  refine hQ u S4 H3 (.sh t.d) [] env2 Lf2 (e1.trans (e1s.trans (e2.trans (e2s.trans e4.s)))) (o2s.grow e4) (.sh a4) pend_nil (fun x u h n => ?_) q
  obtain ⟨c1, c2, c3, c4⟩ := k1 x u h n
  obtain ⟨d1, d2, d3, d4⟩ := k2 x u c1 c4
  refine ⟨e4.h _ _ d1, ?_, fun m => (by cases m), d4⟩
  rw [e4.dom x u d1, shr_out d3, d2, shr_out c3, c2]
theorem m_cmp {op : CmpOp} {f : F2} (ho : OpD X (compareOp op) f) (ha : PM X a bm) (hb : PM X b bn) (hm : behindInMarks op b = false) : PM X (.Compare a [op] [b] pos) (mOp f bm bn) := by
  obtain ⟨r, h1, h2⟩ := ho
  exact pe_weak (pe_cmpR h1 ha hb hm) fun σ H Q h => mop_ref h2 h
def mIsi (c : String) (bm : BM) : BM := fun env Q => bm env fun t env1 => t.d.ty ≠ "" ∧ Q (.sh (.bl (isT t.d.ty c))) env1
theorem m_isi {c : String} {p : Pos} {j : Expr} (hm : X.mg "isinstance" = none) (hg : Gl X "isinstance") (hj : PE X j (tC (.ty c))) (h2 : c ∈ ["int", "bool", "list", "tuple", "str"]) (ha : PM X a bm)
    (hs : starEach [a, j] X.env = (false, eval a X.env) :: starEach [j] X.env := by rfl) (hs2 : starEach [j] X.env = (false, eval j X.env) :: starEach [] X.env := by rfl) (hpl : (backTo pos (starEach [j] X.env)).any (·.1) = false := by rfl) :
    PM X (.Call (.Name "isinstance" p) [a, j] [] pos) (mIsi c bm) :=
  pe_weak (pe_callB call_isi hg hm PyProof.Rows.boot_isinstance (pa_cons ha (pa_cons hj pa_nil hs2) hs) (by decide) (by decide) hs hpl) fun σ H Q ⟨S0, H0, S, env, Lf, Qd, o, hb, hQ⟩ => by
  refine ⟨S0, H0, S, env, Lf, _, o, hb, fun v1 S1 H1 t1 L1 env1 Lf1 e1 o1 r1 p1 k1 q1 => ?_⟩
  obtain ⟨o1s, a1, e1s⟩ := o1.shareP r1 p1
  refine ⟨v1, .ty c, .type t1.d.ty, .type c, _, rfl, .ty c, at_ty o1s.ext.le a1 q1.1, kit_isT (D.ty_mem _ q1.1) h2, hQ (.bl _) _ _ (.sh (.bl _)) [] env1 Lf1 (e1.trans e1s) o1s (.sh (.bl _)) pend_nil (fun x u h n => ?_) q1.2⟩
  obtain ⟨c1, c2, c3, c4⟩ := k1 x u h n
  exact ⟨c1, by rw [shr_out c3, c2], fun m => (by cases m), c4⟩
/-! ### tests that change something of ours -/
abbrev BMT := List (Option T) → (Bool → List (Option T) → Prop) → Prop
def mtOf (K : PySem.W.Frag) (b : BMT) : TT := fun σ H Q => ∃ (S0 H0 S : Hp) (env : List (Option T)) (Lf : Nat → List Addr) (Qd : Bool → List (Option T) → Prop), Own K S0 H0 S H σ env Lf ∧ b env Qd ∧ ∀ c S' H' env' Lf', Same S S' → Own K S0 H0 S' H' σ env' Lf' → Qd c env' → Q c H'
abbrev PMT (X : Cx) (e : Expr) (b : BMT) : Prop := PT X e (mtOf X.K b)
def mtVal (b : BM) : BMT := fun env Q => b env fun t env1 => asB t fun k => Q k env1
def mtNot (q : BMT) : BMT := fun env Q => q env fun k env1 => Q (!k) env1
def mtOr (q r : BMT) : BMT := fun env Q => q env fun k env1 => (k = true → Q true env1) ∧ (k = false → r env1 Q)
theorem mval_ref {H : Hp} {Q : Bool → Hp → Prop} (h : mtOf K (mtVal bm) σ H Q) : mOf K bm σ H fun x H1 => ∃ c, x = .bl c ∧ Q c H1 := by
  obtain ⟨S0, H0, S, env, Lf, Qd, o, hb, hQ⟩ := h
  refine ⟨S0, H0, S, env, Lf, _, o, hb, fun v1 S1 H1 t1 L1 env1 Lf1 e1 o1 r1 p1 k1 q1 => ?_⟩
  obtain ⟨k, rfl, q1⟩ := asB_at q1
  cases r1 with
  | sh a =>
  cases a
  exact ⟨k, rfl, hQ k S1 H1 env1 Lf1 e1 o1 q1⟩
theorem mt_val (h : PM X e bm) (he : ∀ whole, isTrue e X.env whole = (do let v ← whole; standAt e.pos; holding [v] (truthy v)) := by intro _; rfl) : PMT X e (mtVal bm) := pt_weak (pt_val h he) fun σ H Q q => mval_ref q
theorem mt_cmp {op : CmpOp} {f : F2} (ho : OpD X (compareOp op) f) (ha : PM X a bm) (hb : PM X b bn) (hm : behindInMarks op b = false) : PMT X (.Compare a [op] [b] pos) (mtVal (mOp f bm bn)) := by
  obtain ⟨r, h1, h2⟩ := ho
  exact pt_weak (pt_cmpR h1 ha hb hm) fun σ H Q h => mop_ref h2 (mval_ref h)
theorem mt_not {q : BMT} (h : PMT X e q) : PMT X (.UnaryOp .Not e pos) (mtNot q) := pt_weak (pt_not h) fun σ H Q ⟨S0, H0, S, env, Lf, Qd, o, hb, hQ⟩ => ⟨S0, H0, S, env, Lf, _, o, hb, fun c S' H' env' Lf' e o' z => hQ (!c) S' H' env' Lf' e o' z⟩
theorem mt_or {q r : BMT} {x1 x2 : Expr} (h : PMT X x1 q) (k : PMT X x2 r) : PMT X (.BoolOp .Or [x1, x2] pos) (mtOr q r) := pt_weak (pw_or h (pw_or1 k)).pt fun σ H Q ⟨S0, H0, S, env, Lf, Qd, o, hb, hQ⟩ => by
  refine ⟨S0, H0, S, env, Lf, _, o, hb, fun c S' H' env' Lf' e o' z => ?_⟩
  cases c with
  | true => exact iteT (hQ true S' H' env' Lf' e o' (z.1 rfl))
  | false => exact iteF ⟨S0, H0, S', env', Lf', Qd, o', z.2 rfl, fun c2 S2 H2 env2 Lf2 e2 o2 z2 => hQ c2 S2 H2 env2 Lf2 (e.trans e2) o2 z2⟩
def sIfT (q : BMT) (d e : DS) : DS := fun De env => q env fun k env1 => (k = true → d De env1) ∧ (k = false → e De env1)
theorem s_ifT {q : BMT} {as bs : List Stmt} {du dv : DS} (hc : PMT X c q) (h : PSds X as du) (k : PSds X bs dv) : PSd X (.If c as bs pos) (sIfT q du dv) :=
  ps_weak (ps_if hc h k) fun D σ H ⟨S0, H0, S, env, Lf, De, o, hd, n, b, c, r⟩ => by
  refine ⟨S0, H0, S, env, Lf, _, o, hd, fun k S' H' env' Lf' e o' ⟨q1, q2⟩ => ?_⟩
  cases k with
  | true => exact iteT ⟨S0, H0, S', env', Lf', De, o', q1 rfl, fun S2 H2 σ2 env2 Lf2 e3 => n S2 H2 σ2 env2 Lf2 (e.trans e3), fun S2 H2 σ2 env2 Lf2 e3 => b S2 H2 σ2 env2 Lf2 (e.trans e3), fun S2 H2 σ2 env2 Lf2 e3 => c S2 H2 σ2 env2 Lf2 (e.trans e3), r.1, r.2.step e⟩
  | false => exact iteF ⟨S0, H0, S', env', Lf', De, o', q2 rfl, fun S2 H2 σ2 env2 Lf2 e3 => n S2 H2 σ2 env2 Lf2 (e.trans e3), fun S2 H2 σ2 env2 Lf2 e3 => b S2 H2 σ2 env2 Lf2 (e.trans e3), fun S2 H2 σ2 env2 Lf2 e3 => c S2 H2 σ2 env2 Lf2 (e.trans e3), r.1, r.2.step e⟩
/-! ### the dict -/
theorem Own.mdAt {i : Nat} {a : Addr} {n : Int} {web : List D} (o : Own K S0 H0 S H σ env Lf) (h : nth env i = some (.md a n web)) : ∃ l xs, σ[i]? = some (some (.ref a)) ∧ S a = some (.dK (mdV n l)) ∧ H l = some (.lst xs) ∧ Ats K S xs web ∧ Lf i = [l] ∧ i < env.length := by
  obtain ⟨v, h1, h2⟩ := o.slot i _ h
  generalize hL : Lf i = L at h2
  cases h2 with
  | @md _ l _ xs _ g1 g2 g3 => exact ⟨l, xs, h1, g1, g2, g3, rfl, by rw [← o.len]; exact (List.getElem?_eq_some_iff.mp h1).1⟩
/-- x['web'].append(e), x a dict of ours -/
def sMdApp (i : Nat) (be : BT) : DS := fun De env => ∃ a n web, nth env i = some (.md a n web) ∧ web.length < 100000 ∧ be (hide env) fun t => De.nx (env.set i (some (.md a n (web ++ [t.d]))))
theorem s_mdApp (i : Nat) {x : Str} {npos : Pos} (hu : X.A.units + 1 < cLine) (he : PB X e be) (hN : X.N[i]? = some x := by rfl) (hv : Vis X.env.scope x := by first | exact Or.inl rfl | exact Or.inr (Or.inl rfl) | exact Or.inr (Or.inr rfl)) (hd : (x == ("__debug__" : Str)) = false := by decide)
    (hcd : (x == ("__classdict__" : Str)) = false := by decide) (hns : NoSl (.Constant (.str "web") j p2) := by intro _ _; rfl)
    (hbase : attributeBase (.Subscript (.Name x npos) (.Constant (.str "web") j p2) spos) "append" X.env (eval (.Subscript (.Name x npos) (.Constant (.str "web") j p2) spos) X.env) = eval (.Subscript (.Name x npos) (.Constant (.str "web") j p2) spos) X.env := by rfl)
    (hfew : ((backTo cpos (starEach [e] X.env)).all (fun x => !x.1) && (backToKw cpos (keywordEach [] X.env)).all (fun x => x.1.isSome) && decide (([e] : List Expr).length + ([] : List Keyword).length + (if ([] : List Keyword).isEmpty then 0 else 1) < 30)) = true := by rfl)
    (hline : (apos.endLine == cpos.line) = true := by rfl) (hs : starEach [e] X.env = (false, eval e X.env) :: starEach [] X.env := by rfl) (hplain : (backTo cpos (starEach [] X.env)).any (·.1) = false := by rfl) :
    PSd X (.Expr (.Call (.Attribute (.Subscript (.Name x npos) (.Constant (.str "web") j p2) spos) "append" apos) [e] [] cpos) pos) (sMdApp i be) :=
  ps_weak (ps_expr (pe_bm PySem.F.plainAttrs_list PySem.F.slot_list_append PySem.F.type_list_append mt_append (pe_dget hu (pe_var hN hv hd hcd) (pe_str (x := "web")) hns) (pa_cons he pa_nil hs) hbase hfew hline hs hplain) rfl) fun D σ H ⟨S0, H0, S, env, Lf, De, o, ⟨a, m, web, hi, hl, hd⟩, n, b, c, r⟩ => by
  obtain ⟨l, xs, h1, g1, g2, g3, hL, hlen⟩ := o.mdAt hi
  refine ⟨.ref a, h1, a, .ref l, rfl, .inl ⟨mdV m l, Sum.inr "web", .inl (o.ext.le _ _ g1), rfl, mdV_web.symm⟩, .inl ⟨rfl, xs, .inl (.inl g2)⟩, S, hide env, _, o.ext.le, o.hid, hd, fun v S' H' t O q => ?_⟩
  obtain ⟨ee, L2, rr, ff⟩ := O
  obtain ⟨o2, a2, e2⟩ := (o.grow ee).shareP rr (o.pend rr ff)
  refine ⟨l, xs, v, rfl, rfl, ee.h _ _ g2, by rw [g3.length]; exact lt_line hl, ?_⟩
  refine n _ _ σ _ Lf (ee.s.trans e2) (o2.writeAt (i := i) (q := l) (ys := xs ++ [v]) (t := .md a m (web ++ [t.d])) (v := .ref a) hlen h1 (by rw [hL]; simp) ?_) q
  rw [hL]
  exact .md (e2 _ _ (ee.s _ _ g1)) upd_same ((g3.mono (ee.s.trans e2)).append (.cons a2 .nil))
/-- x['web'].pop(), x a dict of ours -/
def mMdPop (i : Nat) : BM := fun env Q => ∃ a n web d, nth env i = some (.md a n (web ++ [d])) ∧ Q (.sh d) (env.set i (some (.md a n web)))
theorem m_mdPop (i : Nat) {x : Str} {npos : Pos} (hu : X.A.units + 1 < cLine) (hN : X.N[i]? = some x := by rfl) (hv : Vis X.env.scope x := by first | exact Or.inl rfl | exact Or.inr (Or.inl rfl) | exact Or.inr (Or.inr rfl)) (hd : (x == ("__debug__" : Str)) = false := by decide)
    (hcd : (x == ("__classdict__" : Str)) = false := by decide) (hns : NoSl (.Constant (.str "web") j p2) := by intro _ _; rfl)
    (hbase : attributeBase (.Subscript (.Name x npos) (.Constant (.str "web") j p2) spos) "pop" X.env (eval (.Subscript (.Name x npos) (.Constant (.str "web") j p2) spos) X.env) = eval (.Subscript (.Name x npos) (.Constant (.str "web") j p2) spos) X.env := by rfl) (hline : (apos.endLine == cpos.line) = true := by rfl) :
    PM X (.Call (.Attribute (.Subscript (.Name x npos) (.Constant (.str "web") j p2) spos) "pop" apos) [] [] cpos) (mMdPop i) :=
  pe_weak (pe_bm0 PySem.F.plainAttrs_list PySem.F.slot_list_pop PySem.F.type_list_pop mt_pop (pe_dget hu (pe_var hN hv hd hcd) (pe_str (x := "web")) hns) hbase hline) fun σ H Q ⟨S0, H0, S, env, Lf, Qd, o, ⟨a, m, web, d, hi, hb⟩, hQ⟩ => by
  obtain ⟨l, xs, h1, g1, g2, g3, hL, hlen⟩ := o.mdAt hi
  obtain ⟨ys, y, rfl, a1, a2⟩ := g3.snoc
  refine ⟨.ref a, h1, a, .ref l, rfl, .inl ⟨mdV m l, Sum.inr "web", .inl (o.ext.le _ _ g1), rfl, mdV_web.symm⟩, .inl ⟨rfl, _, .inl (.inl g2)⟩, l, _, y, rfl, rfl, g2, by simp, ?_⟩
  rw [List.dropLast_concat]
  refine hQ y S _ (.sh d) [] _ Lf (.refl _) (o.writeAt (i := i) (q := l) (ys := ys) (t := .md a m web) (v := .ref a) hlen h1 (by rw [hL]; simp) ?_) (.sh a2) pend_nil (keep_write (i := i) (by rw [hL]; simp)) hb
  rw [hL]
  exact .md g1 upd_same a1
end
end W

/-! GT: defs that change what is handed to them. -/
namespace W
open PySem L2
section
variable {K : PySem.W.Frag} {S0 H0 S H S' H' : Hp} {σ : L2.St} {env env' : List (Option T)} {Lf : Nat → List Addr} {L : List Addr}
def newE (new : Nat → Option (T × List Addr)) (Lf : Nat → List Addr) (j : Nat) : List Addr := match new j with
  | some (_, L') => L'
  | none => Lf j
/-- some slots told anew behind a call -/
theorem Own.reset (o : Own K S0 H0 S H σ env Lf) (new : Nat → Option (T × List Addr)) (e : Ext S (offH L H) S' H') (hL : ∀ x ∈ L, ∃ i p, new i = some p ∧ x ∈ Lf i)
    (hn : ∀ i t L', new i = some (t, L') → (∃ v, σ[i]? = some (some v) ∧ Res K S' H' v t L') ∧ L'.Nodup ∧ ∀ x ∈ L', S' x = none ∧ (offH L H x = none ∨ x ∈ Lf i))
    (hd : ∀ i j p q x, new i = some p → new j = some q → x ∈ p.2 → x ∈ q.2 → i = j) (hl : env'.length = env.length) (he : ∀ j, nth env' j = match new j with | some (t, _) => some t | none => nth env j) :
    Own K S0 H0 S' H' σ env' (newE new Lf) ∧ Keep Lf (newE new Lf) [] S H S' H' := by
  have own_no : ∀ j x, x ∈ Lf j → new j = none → offH L H x = H x := fun j x m z => offH_out fun m2 => by
    obtain ⟨i, p, hi, hx⟩ := hL x m2
    have := o.dis j i x m hx
    subst this
    rw [z] at hi
    cases hi
  have out : ∀ i t L' x j, new i = some (t, L') → x ∈ L' → new j = none → x ∉ Lf j := fun i t L' x j hi m hj m2 => by
    rcases ((hn i t L' hi).2.2 x m).2 with h | h
    · obtain ⟨_, _, u, q⟩ := o.fr j x m2
      rw [own_no j x m2 hj, q] at h
      cases h
    · have := o.dis i j x h m2
      subst this
      rw [hj] at hi
      cases hi
  have cas : ∀ j x, x ∈ newE new Lf j → (∃ t L', new j = some (t, L') ∧ x ∈ L') ∨ (new j = none ∧ x ∈ Lf j) := fun j x m => by
    unfold newE at m
    cases h : new j with
    | none => rw [h] at m; exact .inr ⟨rfl, m⟩
    | some p => rw [h] at m; exact .inl ⟨p.1, p.2, rfl, m⟩
  refine ⟨⟨⟨o.ext.s.trans e.s, fun x u q => e.h x u ?_, e.le, fun x u q => ?_⟩, by rw [hl]; exact o.len, fun j t ht => ?_, fun j => ?_, fun j k x m1 m2 => ?_, fun j x m => ?_⟩, fun x u q no => ?_⟩
  · rw [offH_out fun m => ?_]
    · exact o.ext.h x u q
    · obtain ⟨i, _, _, hx⟩ := hL x m
      rw [(o.fr i x hx).1] at q
      cases q
  · have nm : x ∉ L := fun m => by
      obtain ⟨i, _, _, hx⟩ := hL x m
      rw [(o.fr i x hx).1] at q
      cases q
    exact (e.dom x u (by rw [offH_out nm]; exact o.ext.h x _ q)).trans (o.ext.dom x u q)
  · rw [he j] at ht
    unfold newE
    cases h : new j with
    | none =>
      rw [h] at ht
      obtain ⟨w, k1, k2⟩ := o.slot j t ht
      refine ⟨w, k1, k2.mono e.s fun x m => ?_⟩
      obtain ⟨_, _, u, q⟩ := o.fr j x m
      rw [q]
      exact e.h x _ (by rw [own_no j x m h]; exact q)
    | some p =>
      rw [h] at ht
      cases ht
      exact (hn j p.1 p.2 h).1
  · unfold newE
    cases h : new j with
    | none => exact o.nod j
    | some p => exact (hn j p.1 p.2 h).2.1
  · rcases cas j x m1 with ⟨t, L1, h1, x1⟩ | ⟨h1, x1⟩ <;> rcases cas k x m2 with ⟨u, L2, h2, x2⟩ | ⟨h2, x2⟩
    · exact hd j k _ _ x h1 h2 x1 x2
    · exact (out j t L1 x k h1 x1 h2 x2).elim
    · exact (out k u L2 x j h2 x2 h1 x1).elim
    · exact o.dis j k x x1 x2
  · rcases cas j x m with ⟨t, L1, h1, x1⟩ | ⟨h1, x1⟩
    · obtain ⟨⟨v, _, r⟩, _, hf⟩ := hn j t L1 h1
      obtain ⟨q1, q2⟩ := hf x x1
      refine ⟨?_, q1, Res.lst r x x1⟩
      rcases q2 with q2 | q2
      · by_cases m2 : x ∈ L
        · obtain ⟨i, _, _, hx⟩ := hL x m2
          exact (o.fr i x hx).1
        · rw [offH_out m2] at q2
          exact Same.none o.ext.h q2
      · exact (o.fr j x q2).1
    · obtain ⟨q1, q2, u, q3⟩ := o.fr j x x1
      have q4 := own_no j x x1 h1
      exact ⟨q1, (e.dom x _ (q4.trans q3)).trans q2, u, e.h x _ (q4.trans q3)⟩
  · have nm : x ∉ L := fun m => by
      obtain ⟨i, _, _, hx⟩ := hL x m
      exact no i hx
    have q1 : offH L H x = some u.ho := by rw [offH_out nm]; exact q
    refine ⟨e.h x _ q1, e.dom x u q1, fun m => (by cases m), fun j m => ?_⟩
    rcases cas j x m with ⟨t, L1, h1, x1⟩ | ⟨h1, x1⟩
    · rcases ((hn j t L1 h1).2.2 x x1).2 with h | h
      · rw [q1] at h
        cases h
      · exact no j h
    · exact no j x1
theorem ress_pick : ∀ {ts : List T} {vs : List V} {M : List Addr} {k : Nat} {u : T}, Ress K S H vs ts M → ts[k]? = some u → ∃ v Lu, vs[k]? = some v ∧ Res K S H v u Lu ∧ (∀ x ∈ Lu, x ∈ M) ∧ (M.Nodup → Lu.Nodup ∧
    ∀ S' H' u' L', Same S S' → (∀ x ∈ M, x ∉ Lu → H' x = H x) → Res K S' H' v u' L' → L'.Nodup → (∀ x ∈ L', x ∈ M → x ∈ Lu) → ∃ M', Ress K S' H' vs (ts.set k u') M' ∧ M'.Nodup ∧ ∀ x ∈ M', (x ∈ M ∧ x ∉ Lu) ∨ x ∈ L')
  | [], _, _, _, _, _, e => by simp at e
  | t :: ts, _, _, 0, u, .cons (L := L1) (M := L2) h r, e => by
    simp at e
    subst e
    refine ⟨_, L1, rfl, h, fun x m => List.mem_append_left _ m, fun nd => ?_⟩
    obtain ⟨n1, n2, n3⟩ := List.nodup_append.mp nd
    refine ⟨n1, fun S' H' u' L' es hk hr hn hi => ?_⟩
    have nx : ∀ x ∈ L2, x ∉ L1 := fun x m2 m1 => n3 x m1 x m2 rfl
    refine ⟨L' ++ L2, .cons hr (r.mono es fun x m => hk x (List.mem_append_right _ m) (nx x m)), List.nodup_append.mpr ⟨hn, n2, fun x m1 y m2 z => ?_⟩, fun x m => ?_⟩
    · subst z
      exact nx x m2 (hi x m1 (List.mem_append_right _ m2))
    · rcases List.mem_append.mp m with m | m
      · exact .inr m
      · exact .inl ⟨List.mem_append_right _ m, nx x m⟩
  | t :: ts, _, _, k + 1, u, .cons (L := L1) (M := L2) h r, e => by
    obtain ⟨v, Lu, h1, h2, h3, h4⟩ := ress_pick (k := k) r (by simpa using e)
    refine ⟨v, Lu, by simpa using h1, h2, fun x m => List.mem_append_right _ (h3 x m), fun nd => ?_⟩
    obtain ⟨n1, n2, n3⟩ := List.nodup_append.mp nd
    obtain ⟨g1, g2⟩ := h4 n2
    have nx : ∀ x ∈ L1, x ∉ Lu := fun x m1 m2 => n3 x m1 x (h3 x m2) rfl
    refine ⟨g1, fun S' H' u' L' es hk hr hn hi => ?_⟩
    obtain ⟨M', m1, m2, m3⟩ := g2 S' H' u' L' es (fun x m z => hk x (List.mem_append_right _ m) z) hr hn (fun x m z => hi x m (List.mem_append_right _ z))
    refine ⟨L1 ++ M', .cons (h.mono es fun x m => hk x (List.mem_append_left _ m) (nx x m)) m1, List.nodup_append.mpr ⟨n1, m2, fun x z1 y z2 z => ?_⟩, fun x m => ?_⟩
    · subst z
      rcases m3 x z2 with ⟨z3, _⟩ | z3
      · exact n3 x z1 x z3 rfl
      · exact nx x z1 (hi x z3 (List.mem_append_left _ z1))
    · rcases List.mem_append.mp m with m | m
      · exact .inl ⟨List.mem_append_left _ m, nx x m⟩
      · rcases m3 x m with ⟨z1, z2⟩ | z
        · exact .inl ⟨List.mem_append_right _ z1, z2⟩
        · exact .inr z
end
end W

/-! GU: promises of defs that change what is handed to them. -/
namespace W
open PySem L2
abbrev SpP := List T → (D → List T → Prop) → Prop
def T.ref : T → Option V
  | .bn a _ _ _ => some (.ref a)
  | .md a _ _ => some (.ref a)
  | .ol a _ => some (.ref a)
  | .sh (.int i) => some (.int i)
  | _ => none
section
variable {K : PySem.W.Frag} {S0 H0 S H S' H' : Hp} {σ : L2.St} {env env' : List (Option T)} {Lf : Nat → List Addr} {L : List Addr}
theorem Res.ref_eq {v u : V} {t : T} (r : Res K S H v t L) (h : t.ref = some u) : v = u := by
  cases r with
  | sh a => cases a <;> first | (cases h; rfl) | cases h
  | bn _ _ _ _ _ _ => cases h; rfl
  | md _ _ _ => cases h; rfl
  | ol _ _ => cases h; rfl
  | _ => cases h
theorem Ress.split : ∀ {ts : List T} {vs : List V} {L : List Addr}, Ress K S H vs ts L → ∃ Lf : Nat → List Addr, (∀ j t, ts[j]? = some t → ∃ v, vs[j]? = some v ∧ Res K S H v t (Lf j)) ∧ (∀ j x, x ∈ Lf j → x ∈ L) ∧
    (L.Nodup → (∀ j, (Lf j).Nodup) ∧ ∀ i j x, x ∈ Lf i → x ∈ Lf j → i = j)
  | _, _, _, .nil => ⟨fun _ => [], fun j t h => (by simp at h), fun j x m => (by cases m), fun _ => ⟨fun _ => List.nodup_nil, fun i j x m => (by cases m)⟩⟩
  | _, _, _, .cons (v := v) (t := t) (L := L1) (M := L2) h r => by
    obtain ⟨Lf, h1, h2, h3⟩ := r.split
    refine ⟨fun j => match j with | 0 => L1 | j + 1 => Lf j, fun j t' e => ?_, fun j x m => ?_, fun nd => ?_⟩
    · cases j with
      | zero => simp at e; subst e; exact ⟨v, rfl, h⟩
      | succ j =>
        obtain ⟨w, g1, g2⟩ := h1 j t' (by simpa using e)
        exact ⟨w, by simpa using g1, g2⟩
    · cases j with
      | zero => exact List.mem_append_left _ m
      | succ j => exact List.mem_append_right _ (h2 j x m)
    · obtain ⟨n1, n2, n3⟩ := List.nodup_append.mp nd
      obtain ⟨g1, g2⟩ := h3 n2
      refine ⟨fun j => ?_, fun i j x m1 m2 => ?_⟩
      · cases j with
        | zero => exact n1
        | succ j => exact g1 j
      · cases i with
        | zero =>
          cases j with
          | zero => rfl
          | succ j => exact (n3 x m1 x (h2 j x m2) rfl).elim
        | succ i =>
          cases j with
          | zero => exact (n3 x m2 x (h2 i x m1) rfl).elim
          | succ j => rw [g2 i j x m1 m2]
theorem ress_join : ∀ (ts : List T) (vs : List V) (Lf : Nat → List Addr), vs.length = ts.length → (∀ j t, ts[j]? = some t → ∃ v, vs[j]? = some v ∧ Res K S H v t (Lf j)) → ∃ L, Ress K S H vs ts L ∧ (∀ x, x ∈ L → ∃ j, x ∈ Lf j) ∧
    ((∀ j, (Lf j).Nodup) → (∀ i j x, x ∈ Lf i → x ∈ Lf j → i = j) → L.Nodup)
  | [], [], _, _, _ => ⟨[], .nil, fun _ m => (by cases m), fun _ _ => List.nodup_nil⟩
  | [], _ :: _, _, h, _ => by simp at h
  | _ :: _, [], _, h, _ => by simp at h
  | t :: ts, v :: vs, Lf, h, hr => by
    obtain ⟨L, h1, h2, h3⟩ := ress_join ts vs (fun j => Lf (j + 1)) (by simpa using h) fun j t e => by
      obtain ⟨w, g1, g2⟩ := hr (j + 1) t (by simpa using e)
      exact ⟨w, by simpa using g1, g2⟩
    obtain ⟨w, g1, g2⟩ := hr 0 t rfl
    simp at g1
    subst g1
    refine ⟨Lf 0 ++ L, .cons g2 h1, fun x m => ?_, fun n1 n2 => ?_⟩
    · rcases List.mem_append.mp m with m | m
      · exact ⟨0, m⟩
      · obtain ⟨j, hj⟩ := h2 x m
        exact ⟨j + 1, hj⟩
    · refine List.nodup_append.mpr ⟨n1 0, h3 (fun j => n1 (j + 1)) (fun i j x m1 m2 => by have := n2 (i + 1) (j + 1) x m1 m2; omega), fun x m1 y m2 z => ?_⟩
      subst z
      obtain ⟨j, hj⟩ := h2 x m2
      have := n2 0 (j + 1) x m1 hj
      omega
def envP (N : Nat) (ts : List T) : List (Option T) := ts.map some ++ List.replicate (N - ts.length) none
theorem own_startP {N : List Str} {vs : List V} {ts : List T} (e : Same S H) (r : Ress K S H vs ts L) (nd : L.Nodup) (hS : ∀ x ∈ L, S x = none) : ∃ Lf, Own K S (offH L H) S H (L2.start N vs) (envP N.length ts) Lf := by
  obtain ⟨Lf, h1, h2, h3⟩ := r.split
  obtain ⟨n1, n2⟩ := h3 nd
  have hl := r.length
  refine ⟨Lf, ⟨.refl _, offH_le, e, fun _ _ _ => rfl⟩, ?_, fun i t h => ?_, n1, n2, fun i x m => ⟨offH_in (h2 i x m), hS x (h2 i x m), Ress.lst r x (h2 i x m)⟩⟩
  · unfold L2.start envP
    simp [hl]
  · rw [nth_get] at h
    unfold envP at h
    by_cases hi : i < ts.length
    · rw [List.getElem?_append_left (by rw [List.length_map]; exact hi), List.getElem?_map] at h
      obtain ⟨t', e1, e2⟩ := Option.map_eq_some_iff.mp h
      cases e2
      obtain ⟨v, g1, g2⟩ := h1 i t e1
      refine ⟨v, ?_, g2⟩
      unfold L2.start
      rw [List.getElem?_append_left (by rw [List.length_map, hl]; exact hi), List.getElem?_map, g1]
      rfl
    · rw [List.getElem?_append_right (by rw [List.length_map]; omega), List.getElem?_replicate] at h
      split at h <;> cases h
end
def spPOf (K : PySem.W.Frag) (sp : SpP) : Sp := fun vs H Q _ => ∃ (S : Hp) (ts : List T) (L : List Addr) (Qd : D → List T → Prop), Same S H ∧ Ress K S H vs ts L ∧ L.Nodup ∧ (∀ x ∈ L, S x = none) ∧ sp ts Qd ∧
  ∀ v d S' H' ts' L', Ext S (offH L H) S' H' → At K S' v d → Ress K S' H' vs ts' L' → L'.Nodup → (∀ x ∈ L', offH L H x = none ∧ S' x = none) → Qd d ts' → Q v H'
structure CalP (P : Program) (w : PySem.World) (K : PySem.W.Frag) (mg : Str → Option Value) (base : Heap) (k : Nat) (x : Str) (sp : SpP) : Prop where
  ex : ∃ (f : Addr) (fd : FuncData) (ps : List Str), FnOk P w K mg base CX0 k f fd ps (spPOf K sp) ∧ mg x = some (.ref f) ∧ PySem.W.keepIn K (.ref f) = true ∧ Binds K fd ps []
def PEnd (ts : List T) (Q : D → List T → Prop) (d : D) (env : List (Option T)) : Prop := ∃ ts' : List T, env.take ts.length = ts'.map some ∧ ts'.map T.ref = ts.map T.ref ∧ Q d ts'
abbrev endsP (ts : List T) (Q : D → List T → Prop) : DEnds := ⟨fun env => PEnd ts Q .non env, fun t env => ∃ d, t = .sh d ∧ PEnd ts Q d env, fun _ => False, fun _ => False, fun _ _ => False⟩
section
variable {P : Program} {w : PySem.World} {K : PySem.W.Frag} {mg : Str → Option Value} {base : Heap} {j k : Nat} {x : Str}
theorem CalP.mono {sp : SpP} (c : CalP P w K mg base j x sp) (h : j ≤ k) : CalP P w K mg base k x sp := by
  obtain ⟨f, fd, ps, F, r⟩ := c.ex
  exact ⟨f, fd, ps, F.mono h, r⟩
theorem cal_mkP {params : Arguments} {body : List Stmt} {scope : Scope} {f : Addr} {fd : FuncData} {N ps : List Str} {sp : SpP} {dt : DS}
    (F : FunD K x x params body scope [] [] f fd) (hm : mg x = some (.ref f)) (b : Binds K fd ps []) (S : FnScope N ps scope) (len : ∀ ts Q, sp ts Q → ts.length = ps.length) (hrf : ∀ ts Q, sp ts Q → ∀ t ∈ ts, t.ref.isSome = true)
    (hbody : ∀ (cdv : Value) (A : Around) (outer : List PySem.Env) (s : Shared) (H : Hp) (E : XK), Room k (A.deeper (PyProof.Rows.envOfC x scope s.heap.objs.size f cdv)) → PSds (cxOf CX0 P w K mg base N x scope f cdv A outer s H E).nox body dt)
    (hd : ∀ ts Q, sp ts Q → dt (endsP ts Q) (envP N.length ts)) : CalP P w K mg base (k + 1) x sp := by
  refine ⟨f, fd, ps, F.ok S (fun vs H Q E h => ?_) (fun cdv A outer s H vs Q E hr h => ?_), hm, F.kp, b⟩
  · obtain ⟨S', ts, L, Qd, e, r, nd, hS, h, _⟩ := h
    rw [r.length]
    exact len ts Qd h
  · obtain ⟨S', ts, L, Qd, e, r, nd, hS, h, kk⟩ := h
    obtain ⟨Lf, o⟩ := own_startP (N := N) e r nd hS
    refine ⟨sOf _ dt, (hbody cdv A outer s H E hr).nox, ?_⟩
    have fin : ∀ (v : V) (d : D) S2 H2 σ2 env2 Lf2, Own K S' (offH L H) S2 H2 σ2 env2 Lf2 → At K S2 v d → PEnd ts Qd d env2 → Q v H2 := fun v d S2 H2 σ2 env2 Lf2 o2 a2 ⟨ts', e1, e2, q⟩ => by
      have hlen : ts'.length = ts.length := by simpa using congrArg List.length e2
      obtain ⟨L', g1, g2, g3⟩ := ress_join (K := K) (S := S2) (H := H2) ts' vs Lf2 (by rw [r.length, hlen]) fun j t' ht => by
        have hj : j < ts'.length := (List.getElem?_eq_some_iff.mp ht).1
        have hn : nth env2 j = some t' := by
          rw [nth_get]
          have := congrArg (fun l : List (Option T) => l[j]?) e1
          simp only [List.getElem?_map, ht, Option.map_some] at this
          rw [List.getElem?_take] at this
          split at this
          · exact this
          · cases this
        obtain ⟨v2, s1, s2⟩ := o2.slot j t' hn
        have hr2 : t'.ref = (ts[j]?).bind T.ref := by
          have := congrArg (fun l : List (Option V) => l[j]?) e2
          simp only [List.getElem?_map, ht, Option.map_some] at this
          rw [List.getElem?_eq_getElem (by omega)] at this ⊢
          simpa using this
        obtain ⟨t, ht2⟩ : ∃ t, ts[j]? = some t := ⟨_, List.getElem?_eq_getElem (by omega)⟩
        rw [ht2] at hr2
        obtain ⟨u, hu⟩ := Option.isSome_iff_exists.mp (hrf ts Qd h t (List.mem_of_getElem? ht2))
        obtain ⟨Lf3, b1, _⟩ := r.split
        obtain ⟨v3, c1, c2⟩ := b1 j t ht2
        have e3 := c2.ref_eq hu
        have e4 := s2.ref_eq (u := u) (by rw [hr2]; exact hu)
        subst e3
        subst e4
        exact ⟨_, c1, s2⟩
      exact kk v d S2 H2 ts' L' o2.ext a2 g1 (g3 o2.nod o2.dis) (fun x m => by
        obtain ⟨j, hj⟩ := g2 x m
        obtain ⟨f1, f2, _⟩ := o2.fr j x hj
        exact ⟨f1, f2⟩) q
    refine ⟨S', offH L H, S', envP N.length ts, Lf, endsP ts Qd, o, hd ts Qd h, fun S2 H2 σ2 env2 Lf2 _ o q => fin .non .non S2 H2 σ2 env2 Lf2 o .non q, fun _ _ _ _ _ _ _ q => q.elim, fun _ _ _ _ _ _ _ q => q.elim, fun v S2 H2 σ2 env2 Lf2 t L2 o r2 p2 ⟨d, ht, q⟩ => ?_, fun _ _ _ _ _ _ _ _ _ _ _ q => q.elim⟩
    subst ht
    cases r2 with
    | sh a => exact fin v d S2 H2 σ2 env2 Lf2 o a q
end
end W

/-! GV: such defs called: f(x[i], y[j], ..), x and y lists of ours. -/
namespace W
open PySem L2
section
variable {K : PySem.W.Frag} {S0 H0 S H S' H' : Hp} {σ : L2.St} {env env' : List (Option T)} {Lf : Nat → List Addr} {L : List Addr}
theorem Own.path {i j : Nat} {ts : List T} {u : T} (o : Own K S0 H0 S H σ env Lf) (h : nth env i = some (.ows ts)) (hu : ts[j]? = some u) : ∃ p xs v Lu, σ[i]? = some (some (.ref p)) ∧ H p = some (.lst xs) ∧ xs.length = ts.length ∧ xs[j]? = some v ∧ Res K S H v u Lu ∧ Lu.Nodup ∧ (∀ x ∈ Lu, x ∈ Lf i) ∧
    ∀ L S' H' u' L', (∀ x ∈ Lf i, x ∈ L → x ∈ Lu) → Ext S (offH L H) S' H' → Res K S' H' v u' L' → L'.Nodup → (∀ x ∈ L', offH L H x = none ∧ S' x = none) → ∃ L2, Res K S' H' (.ref p) (.ows (ts.set j u')) L2 ∧ L2.Nodup ∧ ∀ x ∈ L2, S' x = none ∧ (x ∈ Lf i ∨ offH L H x = none) ∧ (x ∈ L' ∨ (x ∈ Lf i ∧ x ∉ Lu)) := by
  obtain ⟨v0, h1, h2⟩ := o.slot i _ h
  have nd := o.nod i
  have fr := o.fr i
  generalize Lf i = M0 at h2 nd fr
  cases h2 with
  | @ows p xs _ M hp hr =>
  obtain ⟨np, nM⟩ := List.nodup_cons.mp nd
  obtain ⟨v, Lu, k1, k2, k3, k4⟩ := ress_pick hr hu
  obtain ⟨g1, g2⟩ := k4 nM
  refine ⟨p, xs, v, Lu, h1, hp, hr.length, k1, k2, g1, fun x m => List.mem_cons_of_mem _ (k3 x m), fun L S' H' u' L' hL e r n' f' => ?_⟩
  have keep : ∀ x ∈ p :: M, x ∉ Lu → H' x = H x ∧ S' x = none := fun x m z => by
    obtain ⟨q1, q2, om, q3⟩ := fr x m
    have hx : offH L H x = some om.ho := by rw [offH_out fun m2 => z (hL x m m2)]; exact q3
    exact ⟨(e.h x _ hx).trans q3.symm, (e.dom x om hx).trans q2⟩
  have pu : p ∉ Lu := fun m => np (k3 p m)
  have inL : ∀ x ∈ L', x ∈ p :: M → x ∈ Lu := fun x m1 m2 => by
    obtain ⟨q1, q2, om, q3⟩ := fr x m2
    by_cases z : x ∈ L
    · exact hL x m2 z
    · have := (f' x m1).1
      rw [offH_out z, q3] at this
      cases this
  obtain ⟨M', m1, m2, m3⟩ := g2 S' H' u' L' e.s (fun x m z => (keep x (List.mem_cons_of_mem _ m) z).1) r n' fun x a b => inL x a (List.mem_cons_of_mem _ b)
  refine ⟨p :: M', .ows ((keep p (by simp) pu).1.trans hp) m1, List.nodup_cons.mpr ⟨fun z => ?_, m2⟩, fun x m => ?_⟩
  · rcases m3 p z with ⟨a, _⟩ | a
    · exact np a
    · exact pu (inL p a (by simp))
  · rcases List.mem_cons.mp m with rfl | m
    · exact ⟨(keep x (by simp) pu).2, .inl (by simp), .inr ⟨by simp, pu⟩⟩
    · rcases m3 x m with ⟨a, b⟩ | a
      · exact ⟨(keep x (List.mem_cons_of_mem _ a) b).2, .inl (List.mem_cons_of_mem _ a), .inr ⟨List.mem_cons_of_mem _ a, b⟩⟩
      · exact ⟨(f' x a).2, .inr (f' x a).1, .inl a⟩
theorem Own.mlAt {i : Nat} {ts : List T} (o : Own K S0 H0 S H σ env Lf) (h : nth env i = some (.ml ts)) : ∃ p xs, σ[i]? = some (some (.ref p)) ∧ S p = some (.lst xs) ∧ Ress K S H xs ts (Lf i) ∧ i < env.length := by
  obtain ⟨v, h1, h2⟩ := o.slot i _ h
  generalize hL : Lf i = L at h2
  cases h2 with
  | @ml p xs _ _ hp hr => exact ⟨p, xs, h1, hp, hr, by rw [← o.len]; exact (List.getElem?_eq_some_iff.mp h1).1⟩
theorem Own.pathM {i j : Nat} {ts : List T} {u : T} (o : Own K S0 H0 S H σ env Lf) (h : nth env i = some (.ml ts)) (hu : ts[j]? = some u) : ∃ p xs v Lu, σ[i]? = some (some (.ref p)) ∧ S p = some (.lst xs) ∧ xs.length = ts.length ∧ xs[j]? = some v ∧ Res K S H v u Lu ∧ Lu.Nodup ∧ (∀ x ∈ Lu, x ∈ Lf i) ∧
    ∀ L S' H' u' L', (∀ x ∈ Lf i, x ∈ L → x ∈ Lu) → Ext S (offH L H) S' H' → Res K S' H' v u' L' → L'.Nodup → (∀ x ∈ L', offH L H x = none ∧ S' x = none) → ∃ L2, Res K S' H' (.ref p) (.ml (ts.set j u')) L2 ∧ L2.Nodup ∧ ∀ x ∈ L2, S' x = none ∧ (x ∈ Lf i ∨ offH L H x = none) ∧ (x ∈ L' ∨ (x ∈ Lf i ∧ x ∉ Lu)) := by
  obtain ⟨p, xs, h1, hp, hr, _⟩ := o.mlAt h
  have nM := o.nod i
  have fr := o.fr i
  generalize Lf i = M at hr nM fr
  obtain ⟨v, Lu, k1, k2, k3, k4⟩ := ress_pick hr hu
  obtain ⟨g1, g2⟩ := k4 nM
  refine ⟨p, xs, v, Lu, h1, hp, hr.length, k1, k2, g1, k3, fun L S' H' u' L' hL e r n' f' => ?_⟩
  have keep : ∀ x ∈ M, x ∉ Lu → H' x = H x ∧ S' x = none := fun x m z => by
    obtain ⟨q1, q2, om, q3⟩ := fr x m
    have hx : offH L H x = some om.ho := by rw [offH_out fun m2 => z (hL x m m2)]; exact q3
    exact ⟨(e.h x _ hx).trans q3.symm, (e.dom x om hx).trans q2⟩
  have inL : ∀ x ∈ L', x ∈ M → x ∈ Lu := fun x m1 m2 => by
    obtain ⟨q1, q2, om, q3⟩ := fr x m2
    by_cases z : x ∈ L
    · exact hL x m2 z
    · have := (f' x m1).1
      rw [offH_out z, q3] at this
      cases this
  obtain ⟨M', m1, m2, m3⟩ := g2 S' H' u' L' e.s (fun x m z => (keep x m z).1) r n' fun x a b => inL x a b
  refine ⟨M', .ml (e.s _ _ hp) m1, m2, fun x m => ?_⟩
  rcases m3 x m with ⟨a, b⟩ | a
  · exact ⟨(keep x a b).2, .inl a, .inr ⟨a, b⟩⟩
  · exact ⟨(f' x a).2, .inr (f' x a).1, .inl a⟩
end
section
variable {X : Cx} {K : PySem.W.Frag} {a b c d e o : Expr} {es : List Expr} {ba bb bc bd be : BT} {pos p p2 p3 npos npos2 : Pos} {S0 H0 S H S' H' : Hp} {σ : L2.St} {env : List (Option T)} {Lf : Nat → List Addr}
theorem atI_of {α : Type} {xs : List α} {k : Int} {j n : Nat} {v : α} (hl : xs.length = n) (h : ixN n k = some j) (hv : xs[j]? = some v) : atI xs k = some v := by
  unfold atI
  rw [hl, h]
  exact hv
/-- f(x[b], y[c], d, e): x and y lists of ours, d and e whole numbers -/
def mProcD (sp : SpP) (i1 : Nat) (bb : BT) (i2 : Nat) (bc bd be : BT) : BM := fun env Q => ∃ ts1 ts2, i1 ≠ i2 ∧ nth env i1 = some (.ows ts1) ∧ nth env i2 = some (.ml ts2) ∧ bb (hide env) fun t1 => asI t1 fun k1 => ∃ j1 u1, ixN ts1.length k1 = some j1 ∧ ts1[j1]? = some u1 ∧
  bc (hide env) fun t2 => asI t2 fun k2 => ∃ j2 u2, ixN ts2.length k2 = some j2 ∧ ts2[j2]? = some u2 ∧ bd (hide env) fun t3 => asI t3 fun c3 => be (hide env) fun t4 => asI t4 fun c4 =>
  sp [u1, u2, .sh (.int c3), .sh (.int c4)] fun z us => ∃ w1 w2, us = [w1, w2, .sh (.int c3), .sh (.int c4)] ∧ Q (.sh z) ((env.set i1 (some (.ows (ts1.set j1 w1)))).set i2 (some (.ml (ts2.set j2 w2))))
theorem m_procD {k : Nat} {x y f : Str} {sp : SpP} (i1 i2 : Nat) (cc : CalP X.prog X.w X.K X.mg X.base k f sp) (hr : Room k X.A) (hg : Gl X f) (hb : PB X b bb) (hc : PB X c bc) (hd : PB X d bd) (he : PB X e be)
    (hN1 : X.N[i1]? = some x := by rfl) (hv1 : Vis X.env.scope x := by first | exact Or.inl rfl | exact Or.inr (Or.inl rfl) | exact Or.inr (Or.inr rfl)) (hd1 : (x == ("__debug__" : Str)) = false := by decide) (hcd1 : (x == ("__classdict__" : Str)) = false := by decide)
    (hN2 : X.N[i2]? = some y := by rfl) (hv2 : Vis X.env.scope y := by first | exact Or.inl rfl | exact Or.inr (Or.inl rfl) | exact Or.inr (Or.inr rfl)) (hd2 : (y == ("__debug__" : Str)) = false := by decide) (hcd2 : (y == ("__classdict__" : Str)) = false := by decide)
    (hx1 : PlainIx b := by intro _ _; rfl) (hx2 : PlainIx c := by intro _ _; rfl) (hdb : (f == ("__debug__" : Str)) = false := by decide)
    (hs1 : starEach [.Subscript (.Name x npos) b p2, .Subscript (.Name y npos2) c p3, d, e] X.env = (false, eval (.Subscript (.Name x npos) b p2) X.env) :: starEach [.Subscript (.Name y npos2) c p3, d, e] X.env := by rfl)
    (hs2 : starEach [.Subscript (.Name y npos2) c p3, d, e] X.env = (false, eval (.Subscript (.Name y npos2) c p3) X.env) :: starEach [d, e] X.env := by rfl)
    (hs3 : starEach [d, e] X.env = (false, eval d X.env) :: starEach [e] X.env := by rfl) (hs4 : starEach [e] X.env = (false, eval e X.env) :: starEach [] X.env := by rfl)
    (hpl : (backTo pos (starEach [.Subscript (.Name y npos2) c p3, d, e] X.env)).any (·.1) = false := by rfl) :
    PM X (.Call (.Name f p) [.Subscript (.Name x npos) b p2, .Subscript (.Name y npos2) c p3, d, e] [] pos) (mProcD sp i1 bb i2 bc bd be) := by
  obtain ⟨fa, fd, ps, F, hm, kp, bnd⟩ := cc.ex
  refine pe_weak (pe_call F hr hg hm kp bnd .nil pass0 (pa_cons (pe_ix ix_list (pe_var hN1 hv1 hd1 hcd1) hb hx1) (pa_cons (pe_ix ix_list (pe_var hN2 hv2 hd2 hcd2) hc hx2) (pa_cons hd (pa_cons he pa_nil hs4) hs3) hs2) hs1) hdb hs1 hpl) fun σ H Q ⟨S0, H0, S, env, Lf, Qd, o, ⟨ts1, ts2, ne, g1, g2, hq⟩, hQ⟩ => ?_
  obtain ⟨p1, ys1, M1, q11, q12, q13, q14, q15⟩ := o.owsAt g1
  obtain ⟨r1, ys2, q21, q22, q23, q25⟩ := o.mlAt g2
  refine ⟨.ref p1, q11, S, hide env, _, o.ext.le, o.hid, hq, fun x1 Sa Ha ta Oa qa => ?_⟩
  obtain ⟨Sb, eb, lb, ab⟩ := Oa.share
  obtain ⟨k1, rfl, j1, u1, hj1, hu1, qa⟩ := asI_at qa
  cases ab
  obtain ⟨w1, hw1⟩ : ∃ w, ys1[j1]? = some w := ⟨_, List.getElem?_eq_getElem (by rw [q13.length]; exact (List.getElem?_eq_some_iff.mp hu1).1)⟩
  refine ⟨p1, ys1, k1, w1, rfl, rfl, .inl (.inl (eb.h _ _ q12)), atI_of q13.length hj1 hw1, ?_⟩
  refine ⟨.ref r1, q21, Sb, hide env, _, eb.le, (o.grow eb).hid, qa, fun x2 Sc Hc tc Oc qc => ?_⟩
  obtain ⟨Sd, ed, ld, ad⟩ := Oc.share
  obtain ⟨k2, rfl, j2, u2, hj2, hu2, qc⟩ := asI_at qc
  cases ad
  have ed2 := eb.trans ed
  obtain ⟨w2, hw2⟩ : ∃ w, ys2[j2]? = some w := ⟨_, List.getElem?_eq_getElem (by rw [q23.length]; exact (List.getElem?_eq_some_iff.mp hu2).1)⟩
  refine ⟨r1, ys2, k2, w2, rfl, rfl, .inl (.inl (ed2.h _ _ (o.ext.le _ _ q22))), atI_of q23.length hj2 hw2, ?_⟩
  refine ⟨Sd, hide env, _, ed2.le, (o.grow ed2).hid, qc, fun x3 Se He te Oe qe => ?_⟩
  obtain ⟨Sf, ef, lf, af⟩ := Oe.share
  obtain ⟨c3, rfl, qe⟩ := asI_at qe
  cases af
  have ef2 := ed2.trans ef
  refine ⟨Sf, hide env, _, ef2.le, (o.grow ef2).hid, qe, fun x4 Sg Hg tg Og qg => ?_⟩
  obtain ⟨Sh, eh, lh, ah⟩ := Og.share
  obtain ⟨c4, rfl, qg⟩ := asI_at qg
  cases ah
  have E4 := ef2.trans eh
  have o4 := o.grow E4
  obtain ⟨pa, xs1, v1, Lu1, m1, m2, m3, m4, m5, m6, m7, m8⟩ := o4.path g1 hu1
  obtain ⟨pb, xs2, v2, Lu2, n1, n2, n3, n4, n5, n6, n7, n8⟩ := o4.pathM g2 hu2
  rw [q11] at m1
  cases m1
  rw [q21] at n1
  cases n1
  rw [E4.h _ _ q12] at m2
  cases m2
  rw [E4.s _ _ q22] at n2
  cases n2
  rw [hw1] at m4
  cases m4
  rw [hw2] at n4
  cases n4
  have dj : ∀ x, x ∈ Lf i1 → x ∈ Lf i2 → False := fun x a b => ne (o.dis i1 i2 x a b)
  have hRess : Ress X.K Sh Hg [w1, w2, .int c3, .int c4] [u1, u2, .sh (.int c3), .sh (.int c4)] (Lu1 ++ Lu2) := by
    have : Ress X.K Sh Hg [w1, w2, .int c3, .int c4] [u1, u2, .sh (.int c3), .sh (.int c4)] (Lu1 ++ (Lu2 ++ ([] ++ ([] ++ [])))) := .cons m5 (.cons n5 (.cons (.sh (.int c3)) (.cons (.sh (.int c4)) .nil)))
    simpa using this
  refine ⟨Sh, _, Lu1 ++ Lu2, _, E4.le, hRess, List.nodup_append.mpr ⟨m6, n6, fun x a y b z => by subst z; exact dj x (m7 x a) (n7 x b)⟩, fun x m => ?_, qg, fun v z S' H' ts' L' e' a' r' nd' f' q' => ?_⟩
  · rcases List.mem_append.mp m with m | m
    · exact (o4.fr i1 x (m7 x m)).2.1
    · exact (o4.fr i2 x (n7 x m)).2.1
  obtain ⟨t1', t2', rfl, q'⟩ := q'
  cases r' with
  | @cons _ _ _ _ L1' R1 ra rb =>
  cases rb with
  | @cons _ _ _ _ L2' R2 rc rd =>
  obtain ⟨nd1, nd2, nd3⟩ := List.nodup_append.mp nd'
  obtain ⟨nd4, _, _⟩ := List.nodup_append.mp nd2
  obtain ⟨La, sa1, sa2, sa3⟩ := m8 (Lu1 ++ Lu2) S' H' t1' L1' (fun x a b => (List.mem_append.mp b).elim id fun b => (dj x a (n7 x b)).elim) e' ra nd1 fun x m => f' x (List.mem_append_left _ m)
  obtain ⟨Lb, sb1, sb2, sb3⟩ := n8 (Lu1 ++ Lu2) S' H' t2' L2' (fun x a b => (List.mem_append.mp b).elim (fun b => (dj x (m7 x b) a).elim) id) e' rc nd4 fun x m => f' x (List.mem_append_right _ (List.mem_append_left _ m))
  have cross : ∀ x, x ∈ La → x ∈ Lb → False := fun x a b => by
    rcases (sa3 x a).2.2 with c1 | ⟨c1, c2⟩ <;> rcases (sb3 x b).2.2 with d1 | ⟨d1, d2⟩
    · exact nd3 x c1 x (List.mem_append_left _ d1) rfl
    · have h0 := (f' x (List.mem_append_left _ c1)).1
      by_cases hx : x ∈ Lu1 ++ Lu2
      · rcases List.mem_append.mp hx with hx | hx
        · exact dj x (m7 x hx) d1
        · exact d2 hx
      · obtain ⟨_, _, om, q3⟩ := o4.fr i2 x d1
        rw [offH_out hx, q3] at h0
        cases h0
    · have h0 := (f' x (List.mem_append_right _ (List.mem_append_left _ d1))).1
      by_cases hx : x ∈ Lu1 ++ Lu2
      · rcases List.mem_append.mp hx with hx | hx
        · exact c2 hx
        · exact dj x c1 (n7 x hx)
      · obtain ⟨_, _, om, q3⟩ := o4.fr i1 x c1
        rw [offH_out hx, q3] at h0
        cases h0
    · exact dj x c1 d1
  obtain ⟨o5, kp⟩ := o4.reset (env' := (env.set i1 (some (.ows (ts1.set j1 t1')))).set i2 (some (.ml (ts2.set j2 t2')))) (fun j => if j = i1 then some (.ows (ts1.set j1 t1'), La) else if j = i2 then some (.ml (ts2.set j2 t2'), Lb) else none) e'
    (fun x m => by
      rcases List.mem_append.mp m with m | m
      · exact ⟨i1, _, if_pos rfl, m7 x m⟩
      · exact ⟨i2, _, by rw [if_neg (Ne.symm ne), if_pos rfl], n7 x m⟩)
    (fun i t L2 h => by
      split at h
      · rename_i z
        subst z
        cases h
        exact ⟨⟨_, q11, sa1⟩, sa2, fun x m => ⟨(sa3 x m).1, (sa3 x m).2.1.symm⟩⟩
      · split at h
        · rename_i z
          subst z
          cases h
          exact ⟨⟨_, q21, sb1⟩, sb2, fun x m => ⟨(sb3 x m).1, (sb3 x m).2.1.symm⟩⟩
        · cases h)
    (fun i j p q x hp hq a b => by
      split at hp <;> split at hq
      · rename_i z1 z2; rw [z1, z2]
      · split at hq
        · cases hp; cases hq; exact (cross x a b).elim
        · cases hq
      · split at hp
        · cases hp; cases hq; exact (cross x b a).elim
        · cases hp
      · split at hp <;> split at hq
        · rename_i z1 z2; rw [z1, z2]
        · cases hq
        · cases hp
        · cases hp)
    (by rw [List.length_set, List.length_set]) (fun j => by
      rw [nth_set, nth_set, List.length_set]
      by_cases z2 : j = i2
      · subst z2
        rw [if_pos ⟨rfl, q25⟩]
        simp [Ne.symm ne]
      · rw [if_neg fun w => z2 w.1]
        by_cases z1 : j = i1
        · subst z1
          rw [if_pos ⟨rfl, q15⟩]
          simp
        · rw [if_neg fun w => z1 w.1]
          simp [z1, z2])
  refine hQ v S' H' (.sh z) [] _ _ (E4.s.trans e'.s) o5 (.sh a') pend_nil (fun x u q no => ?_) q'
  obtain ⟨k1, k2, k3, k4⟩ := kp x u (E4.h x _ q) no
  exact ⟨k1, k2.trans (E4.dom x u q), k3, k4⟩
end
end W

/-! GW: such a def called, a third list of ours handed whole. -/
namespace W
open PySem L2
section
variable {X : Cx} {K : PySem.W.Frag} {a b c d e o : Expr} {es : List Expr} {ba bb bc bd be : BT} {pos p p2 p3 npos npos2 : Pos} {S0 H0 S H S' H' : Hp} {σ : L2.St} {env : List (Option T)} {Lf : Nat → List Addr}
/-- f(x[b], y[c], d, z): x, y and z lists of ours, d a whole number -/
def mProcV (sp : SpP) (i1 : Nat) (bb : BT) (i2 : Nat) (bc bd : BT) (i3 : Nat) : BM := fun env Q => ∃ ts1 ts2 ds, i1 ≠ i2 ∧ i1 ≠ i3 ∧ i2 ≠ i3 ∧ nth env i1 = some (.ows ts1) ∧ nth env i2 = some (.ml ts2) ∧ nth env i3 = some (.ow ds) ∧ bb (hide env) fun t1 => asI t1 fun k1 => ∃ j1 u1, ixN ts1.length k1 = some j1 ∧ ts1[j1]? = some u1 ∧
  bc (hide env) fun t2 => asI t2 fun k2 => ∃ j2 u2, ixN ts2.length k2 = some j2 ∧ ts2[j2]? = some u2 ∧ bd (hide env) fun t3 => asI t3 fun c3 => ∀ a,
  sp [u1, u2, .sh (.int c3), .ol a ds] fun z us => ∃ w1 w2 ds', us = [w1, w2, .sh (.int c3), .ol a ds'] ∧ Q (.sh z) (((env.set i1 (some (.ows (ts1.set j1 w1)))).set i2 (some (.ml (ts2.set j2 w2)))).set i3 (some (.ow ds')))
theorem m_procV {k : Nat} {x y z f : Str} {npos3 : Pos} {sp : SpP} (i1 i2 i3 : Nat) (cc : CalP X.prog X.w X.K X.mg X.base k f sp) (hr : Room k X.A) (hg : Gl X f) (hb : PB X b bb) (hc : PB X c bc) (hd : PB X d bd)
    (hN1 : X.N[i1]? = some x := by rfl) (hv1 : Vis X.env.scope x := by first | exact Or.inl rfl | exact Or.inr (Or.inl rfl) | exact Or.inr (Or.inr rfl)) (hd1 : (x == ("__debug__" : Str)) = false := by decide) (hcd1 : (x == ("__classdict__" : Str)) = false := by decide)
    (hN2 : X.N[i2]? = some y := by rfl) (hv2 : Vis X.env.scope y := by first | exact Or.inl rfl | exact Or.inr (Or.inl rfl) | exact Or.inr (Or.inr rfl)) (hd2 : (y == ("__debug__" : Str)) = false := by decide) (hcd2 : (y == ("__classdict__" : Str)) = false := by decide)
    (hN3 : X.N[i3]? = some z := by rfl) (hv3 : Vis X.env.scope z := by first | exact Or.inl rfl | exact Or.inr (Or.inl rfl) | exact Or.inr (Or.inr rfl)) (hd3 : (z == ("__debug__" : Str)) = false := by decide) (hcd3 : (z == ("__classdict__" : Str)) = false := by decide)
    (hx1 : PlainIx b := by intro _ _; rfl) (hx2 : PlainIx c := by intro _ _; rfl) (hdb : (f == ("__debug__" : Str)) = false := by decide)
    (hs1 : starEach [.Subscript (.Name x npos) b p2, .Subscript (.Name y npos2) c p3, d, .Name z npos3] X.env = (false, eval (.Subscript (.Name x npos) b p2) X.env) :: starEach [.Subscript (.Name y npos2) c p3, d, .Name z npos3] X.env := by rfl)
    (hs2 : starEach [.Subscript (.Name y npos2) c p3, d, .Name z npos3] X.env = (false, eval (.Subscript (.Name y npos2) c p3) X.env) :: starEach [d, .Name z npos3] X.env := by rfl)
    (hs3 : starEach [d, .Name z npos3] X.env = (false, eval d X.env) :: starEach [.Name z npos3] X.env := by rfl) (hs4 : starEach [.Name z npos3] X.env = (false, eval (.Name z npos3) X.env) :: starEach [] X.env := by rfl)
    (hpl : (backTo pos (starEach [.Subscript (.Name y npos2) c p3, d, .Name z npos3] X.env)).any (·.1) = false := by rfl) :
    PM X (.Call (.Name f p) [.Subscript (.Name x npos) b p2, .Subscript (.Name y npos2) c p3, d, .Name z npos3] [] pos) (mProcV sp i1 bb i2 bc bd i3) := by
  obtain ⟨fa, fd, ps, F, hm, kp, bnd⟩ := cc.ex
  refine pe_weak (pe_call F hr hg hm kp bnd .nil pass0 (pa_cons (pe_ix ix_list (pe_var hN1 hv1 hd1 hcd1) hb hx1) (pa_cons (pe_ix ix_list (pe_var hN2 hv2 hd2 hcd2) hc hx2) (pa_cons hd (pa_cons (pe_var hN3 hv3 hd3 hcd3) pa_nil hs4) hs3) hs2) hs1) hdb hs1 hpl) fun σ H Q ⟨S0, H0, S, env, Lf, Qd, o, ⟨ts1, ts2, ds, ne, ne13, ne23, g1, g2, g3, hq⟩, hQ⟩ => ?_
  obtain ⟨p1, ys1, M1, q11, q12, q13, q14, q15⟩ := o.owsAt g1
  obtain ⟨r1, ys2, q21, q22, q23, q25⟩ := o.mlAt g2
  obtain ⟨p3, ys3, q31, q32, q33, q34, q35⟩ := o.owAt g3
  refine ⟨.ref p1, q11, S, hide env, _, o.ext.le, o.hid, hq, fun x1 Sa Ha ta Oa qa => ?_⟩
  obtain ⟨Sb, eb, lb, ab⟩ := Oa.share
  obtain ⟨k1, rfl, j1, u1, hj1, hu1, qa⟩ := asI_at qa
  cases ab
  obtain ⟨w1, hw1⟩ : ∃ w, ys1[j1]? = some w := ⟨_, List.getElem?_eq_getElem (by rw [q13.length]; exact (List.getElem?_eq_some_iff.mp hu1).1)⟩
  refine ⟨p1, ys1, k1, w1, rfl, rfl, .inl (.inl (eb.h _ _ q12)), atI_of q13.length hj1 hw1, ?_⟩
  refine ⟨.ref r1, q21, Sb, hide env, _, eb.le, (o.grow eb).hid, qa, fun x2 Sc Hc tc Oc qc => ?_⟩
  obtain ⟨Sd, ed, ld, ad⟩ := Oc.share
  obtain ⟨k2, rfl, j2, u2, hj2, hu2, qc⟩ := asI_at qc
  cases ad
  have ed2 := eb.trans ed
  obtain ⟨w2, hw2⟩ : ∃ w, ys2[j2]? = some w := ⟨_, List.getElem?_eq_getElem (by rw [q23.length]; exact (List.getElem?_eq_some_iff.mp hu2).1)⟩
  refine ⟨r1, ys2, k2, w2, rfl, rfl, .inl (.inl (ed2.h _ _ (o.ext.le _ _ q22))), atI_of q23.length hj2 hw2, ?_⟩
  refine ⟨Sd, hide env, _, ed2.le, (o.grow ed2).hid, qc, fun x3 Se He te Oe qe => ?_⟩
  obtain ⟨Sf, ef, lf, af⟩ := Oe.share
  obtain ⟨c3, rfl, qe⟩ := asI_at qe
  cases af
  have ef2 := ed2.trans ef
  refine ⟨.ref p3, q31, ?_⟩
  have E4 := ef2
  have o4 := o.grow E4
  obtain ⟨pa, xs1, v1, Lu1, m1, m2, m3, m4, m5, m6, m7, m8⟩ := o4.path g1 hu1
  obtain ⟨pb, xs2, v2, Lu2, n1, n2, n3, n4, n5, n6, n7, n8⟩ := o4.pathM g2 hu2
  rw [q11] at m1
  cases m1
  rw [q21] at n1
  cases n1
  rw [E4.h _ _ q12] at m2
  cases m2
  rw [E4.s _ _ q22] at n2
  cases n2
  rw [hw1] at m4
  cases m4
  rw [hw2] at n4
  cases n4
  have dj : ∀ x, x ∈ Lf i1 → x ∈ Lf i2 → False := fun x a b => ne (o.dis i1 i2 x a b)
  have dj13 : ∀ x, x ∈ Lf i1 → x ∈ Lf i3 → False := fun x a b => ne13 (o.dis i1 i3 x a b)
  have dj23 : ∀ x, x ∈ Lf i2 → x ∈ Lf i3 → False := fun x a b => ne23 (o.dis i2 i3 x a b)
  have m3i : p3 ∈ Lf i3 := by rw [q34]; simp
  have q33b : Ats X.K Sf ys3 ds := q33.mono E4.s
  have hRess : Ress X.K Sf He [w1, w2, .int c3, .ref p3] [u1, u2, .sh (.int c3), .ol p3 ds] (Lu1 ++ (Lu2 ++ [p3])) := by
    have : Ress X.K Sf He [w1, w2, .int c3, .ref p3] [u1, u2, .sh (.int c3), .ol p3 ds] (Lu1 ++ (Lu2 ++ ([] ++ ([p3] ++ [])))) := .cons m5 (.cons n5 (.cons (.sh (.int c3)) (.cons (.ol (E4.h _ _ q32) q33b) .nil)))
    simpa using this
  refine ⟨Sf, _, Lu1 ++ (Lu2 ++ [p3]), _, E4.le, hRess, List.nodup_append.mpr ⟨m6, List.nodup_append.mpr ⟨n6, by simp, fun x a y b z => by subst z; rw [List.mem_singleton] at b; subst b; exact dj23 x (n7 x a) m3i⟩, fun x a y b z => by subst z; exact (List.mem_append.mp b).elim (fun b => dj x (m7 x a) (n7 x b)) (fun b => by rw [List.mem_singleton] at b; subst b; exact dj13 x (m7 x a) m3i)⟩, fun x m => ?_, qe p3, fun v z S' H' ts' L' e' a' r' nd' f' q' => ?_⟩
  · rcases List.mem_append.mp m with m | m
    · exact (o4.fr i1 x (m7 x m)).2.1
    · rcases List.mem_append.mp m with m | m
      · exact (o4.fr i2 x (n7 x m)).2.1
      · rw [List.mem_singleton] at m
        subst m
        exact (o4.fr i3 x m3i).2.1
  obtain ⟨t1', t2', ds', rfl, q'⟩ := q'
  cases r' with
  | @cons _ _ _ _ L1' R1 ra rb =>
  cases rb with
  | @cons _ _ _ _ L2' R2 rc rd =>
  cases rd with
  | @cons _ _ _ _ L3' R3 re rf =>
  cases re with
  | sh _ =>
  cases rf with
  | @cons _ _ _ _ L4' R4 rg rh =>
  cases rg with
  | @ol _ zs _ rz1 rz2 =>
  cases rh
  obtain ⟨nd1, nd2, nd3⟩ := List.nodup_append.mp nd'
  obtain ⟨nd4, nd5, nd6⟩ := List.nodup_append.mp nd2
  have inL : ∀ x, x ∈ Lu1 ++ (Lu2 ++ [p3]) → x ∈ Lu1 ∨ x ∈ Lu2 ∨ x = p3 := fun x m => by
    rcases List.mem_append.mp m with m | m
    · exact .inl m
    · rcases List.mem_append.mp m with m | m
      · exact .inr (.inl m)
      · exact .inr (.inr (List.mem_singleton.mp m))
  obtain ⟨La, sa1, sa2, sa3⟩ := m8 (Lu1 ++ (Lu2 ++ [p3])) S' H' t1' L1' (fun x a b => (inL x b).elim id fun b => b.elim (fun b => (dj x a (n7 x b)).elim) (fun b => by subst b; exact (dj13 x a m3i).elim)) e' ra nd1 fun x m => f' x (List.mem_append_left _ m)
  obtain ⟨Lb, sb1, sb2, sb3⟩ := n8 (Lu1 ++ (Lu2 ++ [p3])) S' H' t2' L2' (fun x a b => (inL x b).elim (fun b => (dj x (m7 x b) a).elim) (fun b => b.elim id (fun b => by subst b; exact (dj23 x a m3i).elim))) e' rc nd4 fun x m => f' x (List.mem_append_right _ (List.mem_append_left _ m))
  have cross : ∀ x, x ∈ La → x ∈ Lb → False := fun x a b => by
    rcases (sa3 x a).2.2 with c1 | ⟨c1, c2⟩ <;> rcases (sb3 x b).2.2 with d1 | ⟨d1, d2⟩
    · exact nd3 x c1 x (List.mem_append_left _ d1) rfl
    · have h0 := (f' x (List.mem_append_left _ c1)).1
      by_cases hx : x ∈ Lu1 ++ (Lu2 ++ [p3])
      · rcases inL x hx with hx | hx | hx
        · exact dj x (m7 x hx) d1
        · exact d2 hx
        · subst hx; exact dj23 x d1 m3i
      · obtain ⟨_, _, om, q3⟩ := o4.fr i2 x d1
        rw [offH_out hx, q3] at h0
        cases h0
    · have h0 := (f' x (List.mem_append_right _ (List.mem_append_left _ d1))).1
      by_cases hx : x ∈ Lu1 ++ (Lu2 ++ [p3])
      · rcases inL x hx with hx | hx | hx
        · exact c2 hx
        · exact dj x c1 (n7 x hx)
        · subst hx; exact dj13 x c1 m3i
      · obtain ⟨_, _, om, q3⟩ := o4.fr i1 x c1
        rw [offH_out hx, q3] at h0
        cases h0
    · exact dj x c1 d1
  have pa3 : p3 ∉ La := fun a => by
    rcases (sa3 p3 a).2.2 with c1 | ⟨c1, _⟩
    · exact nd3 p3 c1 p3 (by simp) rfl
    · exact dj13 p3 c1 m3i
  have pb3 : p3 ∉ Lb := fun a => by
    rcases (sb3 p3 a).2.2 with c1 | ⟨c1, _⟩
    · exact nd6 p3 c1 p3 (by simp) rfl
    · exact dj23 p3 c1 m3i
  obtain ⟨o5, kp⟩ := o4.reset (env' := ((env.set i1 (some (.ows (ts1.set j1 t1')))).set i2 (some (.ml (ts2.set j2 t2')))).set i3 (some (.ow ds'))) (fun j => if j = i1 then some (.ows (ts1.set j1 t1'), La) else if j = i2 then some (.ml (ts2.set j2 t2'), Lb) else if j = i3 then some (.ow ds', [p3]) else none) e'
    (fun x m => by
      rcases inL x m with m | m | m
      · exact ⟨i1, _, if_pos rfl, m7 x m⟩
      · exact ⟨i2, _, by rw [if_neg (Ne.symm ne), if_pos rfl], n7 x m⟩
      · exact ⟨i3, _, by rw [if_neg (Ne.symm ne13), if_neg (Ne.symm ne23), if_pos rfl], by subst m; exact m3i⟩)
    (fun i t L2 h => by
      split at h
      · rename_i z
        subst z
        cases h
        exact ⟨⟨_, q11, sa1⟩, sa2, fun x m => ⟨(sa3 x m).1, (sa3 x m).2.1.symm⟩⟩
      · split at h
        · rename_i z
          subst z
          cases h
          exact ⟨⟨_, q21, sb1⟩, sb2, fun x m => ⟨(sb3 x m).1, (sb3 x m).2.1.symm⟩⟩
        · split at h
          · rename_i z
            subst z
            cases h
            exact ⟨⟨_, q31, .ow rz1 rz2⟩, by simp, fun x m => by
              rw [List.mem_singleton] at m
              subst m
              exact ⟨(f' x (by simp)).2, .inr m3i⟩⟩
          · cases h)
    (fun i j p q x hp hq a b => by
      split at hp
      · cases hp
        split at hq
        · rename_i z1 z2; rw [z1, z2]
        · split at hq
          · cases hq; exact (cross x a b).elim
          · split at hq
            · cases hq
              rw [List.mem_singleton] at b
              subst b
              exact (pa3 a).elim
            · cases hq
      · split at hp
        · cases hp
          split at hq
          · cases hq; exact (cross x b a).elim
          · split at hq
            · rename_i z1 z2 z3; subst z1; subst z3; rfl
            · split at hq
              · cases hq
                rw [List.mem_singleton] at b
                subst b
                exact (pb3 a).elim
              · cases hq
        · split at hp
          · cases hp
            rw [List.mem_singleton] at a
            subst a
            split at hq
            · cases hq; exact (pa3 b).elim
            · split at hq
              · cases hq; exact (pb3 b).elim
              · split at hq
                · omega
                · cases hq
          · cases hp)
    (by rw [List.length_set, List.length_set, List.length_set]) (fun j => by
      rw [nth_set, nth_set, nth_set, List.length_set, List.length_set]
      by_cases z3 : j = i3
      · subst z3
        rw [if_pos ⟨rfl, q35⟩]
        simp [Ne.symm ne13, Ne.symm ne23]
      · rw [if_neg fun w => z3 w.1]
        by_cases z2 : j = i2
        · subst z2
          rw [if_pos ⟨rfl, q25⟩]
          simp [Ne.symm ne]
        · rw [if_neg fun w => z2 w.1]
          by_cases z1 : j = i1
          · subst z1
            rw [if_pos ⟨rfl, q15⟩]
            simp
          · rw [if_neg fun w => z1 w.1]
            simp [z1, z2, z3])
  refine hQ v S' H' (.sh z) [] _ _ (E4.s.trans e'.s) o5 (.sh a') pend_nil (fun x u q no => ?_) q'
  obtain ⟨k1, k2, k3, k4⟩ := kp x u (E4.h x _ q) no
  exact ⟨k1, k2.trans (E4.dom x u q), k3, k4⟩
end
end W

/-! GX: {'lines': e, 'web': []}; x.append(e), x a list handed to us. -/
namespace W
open PySem L2
section
variable {X : Cx} {K : PySem.W.Frag} {a b c e o : Expr} {es : List Expr} {ba bb be : BT} {bs : BA} {bm bn : BM} {pos p2 p3 p4 apos cpos spos : Pos} {j j3 : Nat} {S0 H0 S H S' H' : Hp} {σ : L2.St} {env : List (Option T)} {Lf : Nat → List Addr}
def bMd (be : BT) : BT := fun env Q => be env fun t => ∃ n, t.d = .int n ∧ ∀ a, Q (.md a n [])
theorem b_md (he : PB X e be) : PB X (.Dict [some (.Constant (.str "lines") j p2), some (.Constant (.str "web") j3 p3)] [e, .List [] p4] pos) (bMd be) :=
  pe_weak (pe_disp (pps_cons (pe_str (x := "lines")) he (pps_cons (pe_str (x := "web")) (b_lst (X := X) a_nil) pps_nil)) rfl rfl (by simp) (by simp)) fun σ H Q ⟨S, env, Qd, hS, hE, hh, hQ⟩ => by
  intro p hp
  have sp : S p = none := Same.none hS hp
  have hS1 : Same S (upd H p (.dK [])) := fun b u h => by rw [upd_ne (ne_of_none h sp)]; exact hS b u h
  refine ⟨S, env, _, hS1, hE, hh, fun v1 S1 H1 t1 O1 ⟨n, hd, q1⟩ => ?_⟩
  obtain ⟨S2, e2, l2, a2⟩ := O1.share
  rw [hd] at a2
  cases a2
  refine ⟨S2, env, fun t => t = .ow [], e2.le, hE.mono e2.s, ⟨by decide, rfl⟩, fun v3 S3 H3 t3 O3 h3 => ?_⟩
  subst h3
  obtain ⟨e3, L3, r3, f3⟩ := O3
  cases r3 with
  | @ow l xs _ hl ha =>
  cases ha
  have E := e2.trans e3
  have hp3 : H3 p = some (.dK []) := E.h _ _ upd_same
  have lp : l ≠ p := fun z => by subst z; rw [hp3] at hl; cases hl
  obtain ⟨fl1, fl2⟩ := f3.2 l (by simp)
  have hl0 : H l = none := by
    have := Same.none e2.h fl1
    rw [upd_ne lp] at this
    exact this
  refine ⟨hp3, [(Sum.inr "lines", .int n), (Sum.inr "web", .ref l)], rfl, by simp, ?_⟩
  have em : mergeK [] [((Sum.inr "lines" : Key), V.int n), (Sum.inr "web", V.ref l)] = mdV n l := by rfl
  rw [em]
  refine hQ (.ref p) (upd S3 p (.dK (mdV n l))) _ (.md p n []) ⟨⟨fun b u h => ?_, fun b u h => ?_, fun b u h => ?_, fun b u h => ?_⟩, [l], .md upd_same ((upd_ne lp).trans hl) .nil, by simp, fun b m => ?_⟩ (q1 p)
  · rw [upd_ne (ne_of_none h sp)]
    exact E.s b u h
  · have hb : b ≠ p := ne_of_none h hp
    rw [upd_ne hb]
    exact E.h b u (by rw [upd_ne hb]; exact h)
  · by_cases hb : b = p
    · subst hb
      rw [upd_same] at h ⊢
      exact h
    · rw [upd_ne hb] at h ⊢
      exact e3.le b u h
  · have hb : b ≠ p := ne_of_none h hp
    rw [upd_ne hb]
    exact E.dom b u (by rw [upd_ne hb]; exact h)
  · rw [List.mem_singleton] at m
    subst m
    exact ⟨hl0, by rw [upd_ne lp]; exact fl2⟩
theorem Own.olAt {i : Nat} {p : Addr} {ds : List D} (o : Own K S0 H0 S H σ env Lf) (h : nth env i = some (.ol p ds)) : ∃ xs, σ[i]? = some (some (.ref p)) ∧ H p = some (.lst xs) ∧ Ats K S xs ds ∧ Lf i = [p] ∧ i < env.length := by
  obtain ⟨v, h1, h2⟩ := o.slot i _ h
  generalize hL : Lf i = L at h2
  cases h2 with
  | @ol _ xs _ hp ha => exact ⟨xs, h1, hp, ha, rfl, by rw [← o.len]; exact (List.getElem?_eq_some_iff.mp h1).1⟩
/-- x.append(e), x a list handed to us -/
def sOlApp (i : Nat) (bm : BM) : DS := fun De env => (∃ p ds, nth env i = some (.ol p ds)) ∧ bm env fun t env1 => ∃ p ds, nth env1 i = some (.ol p ds) ∧ ds.length < 100000 ∧ De.nx (env1.set i (some (.ol p (ds ++ [t.d]))))
theorem s_olApp (i : Nat) {x : Str} {npos : Pos} (hm : PM X e bm) (hN : X.N[i]? = some x := by rfl) (hv : Vis X.env.scope x := by first | exact Or.inl rfl | exact Or.inr (Or.inl rfl) | exact Or.inr (Or.inr rfl)) (hd : (x == ("__debug__" : Str)) = false := by decide)
    (hcd : (x == ("__classdict__" : Str)) = false := by decide) (hbase : attributeBase (.Name x npos) "append" X.env (eval (.Name x npos) X.env) = eval (.Name x npos) X.env := by rfl)
    (hfew : ((backTo cpos (starEach [e] X.env)).all (fun x => !x.1) && (backToKw cpos (keywordEach [] X.env)).all (fun x => x.1.isSome) && decide (([e] : List Expr).length + ([] : List Keyword).length + (if ([] : List Keyword).isEmpty then 0 else 1) < 30)) = true := by rfl)
    (hline : (apos.endLine == cpos.line) = true := by rfl) (hs : starEach [e] X.env = (false, eval e X.env) :: starEach [] X.env := by rfl) (hplain : (backTo cpos (starEach [] X.env)).any (·.1) = false := by rfl) :
    PSd X (.Expr (.Call (.Attribute (.Name x npos) "append" apos) [e] [] cpos) pos) (sOlApp i bm) :=
  ps_weak (ps_expr (pe_bm PySem.F.plainAttrs_list PySem.F.slot_list_append PySem.F.type_list_append mt_append (pe_var hN hv hd hcd) (pa_cons hm pa_nil hs) hbase hfew hline hs hplain) rfl) fun D σ H ⟨S0, H0, S, env, Lf, De, o, ⟨⟨p0, ds0, h0⟩, hd⟩, n, b, c, r⟩ => by
  obtain ⟨xs, h1, h2, _, _, _⟩ := o.olAt h0
  refine ⟨.ref p0, h1, .inl ⟨rfl, xs, .inl (.inl h2)⟩, S0, H0, S, env, Lf, _, o, hd, fun v S' H' t L env' Lf' e o' r' pe _ ⟨p, ds, g0, gl, q⟩ => ?_⟩
  obtain ⟨o2, a2, e2⟩ := o'.shareP r' pe
  obtain ⟨ys, g1, g2, g3, g4, g5⟩ := o2.olAt g0
  rw [h1] at g1
  cases g1
  refine ⟨_, ys, v, rfl, rfl, g2, by rw [g3.length]; exact lt_line gl, ?_⟩
  refine n _ _ σ _ Lf' (e.trans e2) (o2.writeAt (i := i) (ys := ys ++ [v]) (t := .ol _ (ds ++ [t.d])) (v := .ref _) g5 h1 (by rw [g4]; simp) ?_) q
  rw [g4]
  exact .ol upd_same (g3.append (.cons a2 .nil))
end
end W

/-! GY: a list of dicts: the list itself is told for good, the webs stay ours; a bench's last layer taken. -/
namespace W
open PySem L2
section
variable {X : Cx} {K : PySem.W.Frag} {S0 H0 S H S' H' : Hp} {σ : L2.St} {env : List (Option T)} {Lf : Nat → List Addr}
def sMl (i : Nat) (d : DS) : DS := fun De env => ∃ ts, nth env i = some (.ows ts) ∧ d De (env.set i (some (.ml ts)))
theorem sMl_ref {mg : Str → Option Value} {W : WX} {i : Nat} {d : DS} {D : Ends} (h : sOfW K mg W (sMl i d) D σ H) : sOfW K mg W d D σ H := by
  obtain ⟨S0, H0, S, env, Lf, De, o, ⟨ts, e, hd⟩, n, b, c, r⟩ := h
  obtain ⟨p, xs, M, h1, hp, hr, hL, hi⟩ := o.owsAt e
  have nd := o.nod i
  rw [hL] at nd
  obtain ⟨np, nM⟩ := List.nodup_cons.mp nd
  have pi : p ∈ Lf i := by rw [hL]; simp
  have Mi : ∀ x ∈ M, x ∈ Lf i := fun x m => by rw [hL]; exact List.mem_cons_of_mem _ m
  have hss := shr_le (L := [p]) o.ext.le
  have ne : ∀ j a, a ∈ (if j = i then M else Lf j) → a ≠ p ∧ a ∈ Lf j := fun j a m => by
    split at m
    · rename_i z
      subst z
      exact ⟨fun w => np (w ▸ m), Mi a m⟩
    · rename_i z
      exact ⟨fun w => by subst w; exact z (o.dis j i a m pi), m⟩
  have o2 : Own K S0 H0 (shr S H [p]) H σ (env.set i (some (.ml ts))) (fun j => if j = i then M else Lf j) := by
    refine ⟨⟨o.ext.s.trans hss, o.ext.h, shr_ge o.ext.le, fun a u h => ?_⟩, by rw [List.length_set]; exact o.len, fun j u hu => ?_, fun j => ?_, fun j k a m1 m2 => o.dis j k a (ne j a m1).2 (ne k a m2).2, fun j a m => ?_⟩
    · have nn : a ∉ [p] := fun m => by
        rw [List.mem_singleton] at m
        subst m
        rw [(o.fr i a pi).1] at h
        cases h
      rw [shr_out nn]
      exact o.ext.dom a u h
    · rw [nth_set] at hu
      by_cases hj : j = i
      · subst hj
        rw [if_pos ⟨rfl, hi⟩] at hu
        cases hu
        rw [if_pos rfl]
        exact ⟨_, h1, .ml ((shr_in (by simp)).trans hp) (hr.mono hss fun _ _ => rfl)⟩
      · rw [if_neg (fun z => hj z.1)] at hu
        obtain ⟨w, g1, g2⟩ := o.slot j u hu
        rw [if_neg hj]
        exact ⟨w, g1, g2.mono hss fun _ _ => rfl⟩
    · show (if j = i then M else Lf j).Nodup
      split
      · exact nM
      · exact o.nod j
    · obtain ⟨g1, g2⟩ := ne j a m
      obtain ⟨f1, f2, f3⟩ := o.fr j a g2
      refine ⟨f1, ?_, f3⟩
      rw [shr_out fun z => g1 (List.mem_singleton.mp z)]
      exact f2
  exact ⟨S0, H0, shr S H [p], _, _, De, o2, hd, fun S' H' σ' env' Lf' e' => n S' H' σ' env' Lf' (hss.trans e'), fun S' H' σ' env' Lf' e' => b S' H' σ' env' Lf' (hss.trans e'), fun S' H' σ' env' Lf' e' => c S' H' σ' env' Lf' (hss.trans e'), r.1, r.2.step hss⟩
theorem s_ml {st : List Stmt} {d : DS} (i : Nat) (h : PSds X st d) : PSds X st (sMl i d) := pss_weak h fun D σ H h => sMl_ref h
end
section
variable {X : Cx} {K : PySem.W.Frag} {pos npos fpos apos cpos : Pos} {S0 H0 S H S' H' : Hp} {σ : L2.St} {env : List (Option T)} {Lf : Nat → List Addr}
/-- x.laid.pop(), as what comes -/
def mLaidPop (i : Nat) : BM := fun env Q => bnAt (nth env i) fun a n laid past => ∃ l d, laid = l ++ [d] ∧ Q (.sh d) (env.set i (some (.bn a n l past)))
theorem m_laidPop (i : Nat) {x : Str} (B : BnC X.K X.mg) (hN : X.N[i]? = some x := by rfl) (hv : Vis X.env.scope x := by first | exact Or.inl rfl | exact Or.inr (Or.inl rfl) | exact Or.inr (Or.inr rfl)) (hd : (x == ("__debug__" : Str)) = false := by decide) (hcd : (x == ("__classdict__" : Str)) = false := by decide)
    (hb1 : attributeBase (.Name x npos) "laid" X.env (eval (.Name x npos) X.env) = eval (.Name x npos) X.env := by rfl)
    (hbase : attributeBase (.Attribute (.Name x npos) "laid" fpos) "pop" X.env (eval (.Attribute (.Name x npos) "laid" fpos) X.env) = eval (.Attribute (.Name x npos) "laid" fpos) X.env := by rfl) (hline : (apos.endLine == cpos.line) = true := by rfl) :
    PM X (.Call (.Attribute (.Attribute (.Name x npos) "laid" fpos) "pop" apos) [] [] cpos) (mLaidPop i) :=
  pe_weak (pe_bm0 PySem.F.plainAttrs_list PySem.F.slot_list_pop PySem.F.type_list_pop mt_pop (pe_fld (pe_var hN hv hd hcd) hb1) hbase hline) fun σ H Q ⟨S0, H0, S, env, Lf, Qd, o, hb, hQ⟩ => by
  obtain ⟨a, m, laid, past, hi, l0, d, rfl, hb⟩ := bnAt_of hb
  obtain ⟨dx, l, p, xs, ys, h1, g1, g2, g3, g4, g5, g6, hL, hlen, n1, n2, n3, n4, n5, n6⟩ := o.bnAt hi
  obtain ⟨zs, z, rfl, a1, a2⟩ := g5.snoc
  refine ⟨.ref a, h1, a, _, dx, _, .ref l, rfl, g1, B.cls, B.laid, bnF_laid, .inl ⟨rfl, _, .inl (.inl g3)⟩, l, _, z, rfl, rfl, g3, by simp, ?_⟩
  rw [List.dropLast_concat]
  refine hQ z S _ (.sh d) [] _ Lf (.refl _) (o.writeAt (i := i) (q := l) (ys := zs) (t := .bn a m l0 past) (v := .ref a) hlen h1 (by rw [hL]; simp) ?_) (.sh a2) pend_nil (keep_write (i := i) (by rw [hL]; simp)) hb
  rw [hL]
  exact .bn ((upd_ne n2).trans g1) ((upd_ne n4).trans g2) upd_same ((upd_ne (Ne.symm n6)).trans g4) a1 g6
/-- x.past.pop(), as what comes -/
def mPastPop (i : Nat) : BM := fun env Q => bnAt (nth env i) fun a n laid past => ∃ l d, past = l ++ [d] ∧ Q (.sh d) (env.set i (some (.bn a n laid l)))
theorem m_pastPop (i : Nat) {x : Str} (B : BnC X.K X.mg) (hN : X.N[i]? = some x := by rfl) (hv : Vis X.env.scope x := by first | exact Or.inl rfl | exact Or.inr (Or.inl rfl) | exact Or.inr (Or.inr rfl)) (hd : (x == ("__debug__" : Str)) = false := by decide) (hcd : (x == ("__classdict__" : Str)) = false := by decide)
    (hb1 : attributeBase (.Name x npos) "past" X.env (eval (.Name x npos) X.env) = eval (.Name x npos) X.env := by rfl)
    (hbase : attributeBase (.Attribute (.Name x npos) "past" fpos) "pop" X.env (eval (.Attribute (.Name x npos) "past" fpos) X.env) = eval (.Attribute (.Name x npos) "past" fpos) X.env := by rfl) (hline : (apos.endLine == cpos.line) = true := by rfl) :
    PM X (.Call (.Attribute (.Attribute (.Name x npos) "past" fpos) "pop" apos) [] [] cpos) (mPastPop i) :=
  pe_weak (pe_bm0 PySem.F.plainAttrs_list PySem.F.slot_list_pop PySem.F.type_list_pop mt_pop (pe_fld (pe_var hN hv hd hcd) hb1) hbase hline) fun σ H Q ⟨S0, H0, S, env, Lf, Qd, o, hb, hQ⟩ => by
  obtain ⟨a, m, laid, past, hi, l0, d, rfl, hb⟩ := bnAt_of hb
  obtain ⟨dx, l, p, xs, ys, h1, g1, g2, g3, g4, g5, g6, hL, hlen, n1, n2, n3, n4, n5, n6⟩ := o.bnAt hi
  obtain ⟨zs, z, rfl, a1, a2⟩ := g6.snoc
  refine ⟨.ref a, h1, a, _, dx, _, .ref p, rfl, g1, B.cls, B.past, bnF_past, .inl ⟨rfl, _, .inl (.inl g4)⟩, p, _, z, rfl, rfl, g4, by simp, ?_⟩
  rw [List.dropLast_concat]
  refine hQ z S _ (.sh d) [] _ Lf (.refl _) (o.writeAt (i := i) (q := p) (ys := zs) (t := .bn a m laid l0) (v := .ref a) hlen h1 (by rw [hL]; simp) ?_) (.sh a2) pend_nil (keep_write (i := i) (by rw [hL]; simp)) hb
  rw [hL]
  exact .bn ((upd_ne n3).trans g1) ((upd_ne n5).trans g2) ((upd_ne n6).trans g3) upd_same g5 a1
end
end W

/-! GZ: x.m(), x a bench of ours; what comes is dropped. -/
namespace W
open PySem L2
section
variable {X : Cx} {K : PySem.W.Frag} {pos apos : Pos} {S0 H0 S H S' H' : Hp} {σ : L2.St} {env : List (Option T)} {Lf : Nat → List Addr}
def mMeth0 (i : Nat) (sp : MSp) : BM := fun env Q => bnAt (nth env i) fun a n laid past => sp n laid past [] fun d laid' past' => Q (.sh d) (env.set i (some (.bn a n laid' past')))
theorem m_meth0 {k : Nat} {m x : Str} {sp : MSp} {npos : Pos} {pl : Sem Bool} (i : Nat) (B : BnC X.K X.mg) (c : MethM X.prog X.w X.K X.mg X.base k m sp) (hr : Room k X.A)
    (hN : X.N[i]? = some x := by rfl) (hv : Vis X.env.scope x := by first | exact Or.inl rfl | exact Or.inr (Or.inl rfl) | exact Or.inr (Or.inr rfl)) (hd : (x == ("__debug__" : Str)) = false := by decide) (hcd : (x == ("__classdict__" : Str)) = false := by decide)
    (h1 : (m == ("lines" : Str)) = false := by decide) (h2 : (m == ("laid" : Str)) = false := by decide) (h3 : (m == ("past" : Str)) = false := by decide)
    (ht : eval (.Call (.Attribute (.Name x npos) m apos) [] [] pos) X.env = (do
      let ov ← eval (.Name x npos) X.env
      standAt apos.atName
      let (f, first) ← holding [ov] (getMethod ov m pl)
      callWith pos f first (backTo pos (starEach [] X.env)) (backToKw pos (keywordEach [] X.env))) := by rfl) :
    PM X (.Call (.Attribute (.Name x npos) m apos) [] [] pos) (mMeth0 i sp) := by
  obtain ⟨fd, ps, F, M, b⟩ := c.ex
  refine pe_weak (pe_meth0 (pl := pl) (pe_var hN hv hd hcd) B.cls M F hr b .nil pass0 ht) fun σ H Q ⟨S0, H0, S, env, Lf, Qd, o, hb, hQ⟩ => ?_
  obtain ⟨a, n, laid, past, hi, hb⟩ := bnAt_of hb
  obtain ⟨dx, l, p, xs, ys, g0, g1, g2, g3, g4, g5, g6, hL, hlen, _⟩ := o.bnAt hi
  refine ⟨.ref a, g0, a, dx, _, rfl, g1, bnF_no h1 h2 h3, ?_⟩
  obtain ⟨v, k1, k2⟩ := o.slot i _ hi
  rw [g0] at k1
  cases k1
  refine ⟨S, a, [], n, laid, past, Lf i, [], _, rfl, o.ext.le, k2, o.nod i, fun x m => (o.fr i x m).2.1, .nil, hb, fun v d S' H' laid' past' L' e r bn q' => ?_⟩
  obtain ⟨o3, kp⟩ := o.rebn hi e bn
  exact hQ v S' H' _ [] _ _ e.s o3 (.sh r) ⟨List.nodup_nil, fun _ m => by cases m⟩ kp q'
end
end W

/-! HA: a dict of tuple keys walked: locked for good; its length; not in, of data; sorted of a tuple of whole numbers. -/
namespace W
open PySem L2
/-! ### a dict locked for good -/
/-- at v stands a locked dict with these keys -/
def frzP (ks : List (List Int)) : V → Hp → Prop := fun v S => ∃ a o, v = .ref a ∧ S a = some (.frz o (.dT (dtV ks)))
theorem frzP_at {K : PySem.W.Frag} {S : Hp} {a : Addr} {o : Obj} {ks : List (List Int)} (h : S a = some (.frz o (.dT (dtV ks)))) : At K S (.ref a) (.abs (frzP ks)) := .abs fun S' e => ⟨a, o, rfl, e _ _ h⟩
theorem pe_frz {X : Cx} {e : Expr} {te : TE} (he : PE X e te) : PE X e (fun σ H Q => te σ H fun x H1 => ∃ d u, x = .ref d ∧ H1 d = some u ∧ Mut (some u) ∧ ∀ o, Q x (upd H1 d (.frz o u))) := by
  refine ⟨fun pins s σ H Q I h => ?_⟩
  refine thn (he.run pins s σ H _ I h) fun u s1 ⟨x, H1, I1, rx, d, w, ex, hd, mu, q⟩ => ?_
  obtain ⟨od, I2⟩ := I1.lock hd mu
  exact ⟨x, _, I2, rx, q od⟩
def iKeysL (td : TE) : TI := fun σ H R => td σ H fun x H1 => ∃ d kvs, x = .ref d ∧ ((H1 d = some (.dT kvs) ∧ ∀ o, R (Itkt d o kvs) (upd H1 d (.frz o (.dT kvs)))) ∨ ∃ o, H1 d = some (.frz o (.dT kvs)) ∧ R (Itkt d o kvs) H1)
theorem pi_keysL {X : Cx} {tg e : Expr} {td : TE} (he : PE X e td) : PI X tg e (iKeysL td) := by
  refine ⟨fun pins s σ H R I h => ?_⟩
  refine thn (he.run pins s σ H _ I h) fun u s1 ⟨x, H1, I1, rx, d, kvs, ex, q⟩ => ?_
  subst ex
  obtain rfl : u = Value.ref d := rx
  rcases q with ⟨hd, q⟩ | ⟨o, hd, q⟩
  · obtain ⟨od, I2⟩ := I1.lock hd trivial
    obtain ⟨hs, hg, hx, es, ep, hdt, hsz, _⟩ := I2.frzT upd_same
    refine iter_keys hs hg hx hdt (pi_one (tk := s1.toks) I2 _ (turn_keysT _ hdt) ⟨_, Heap.get?_push_size _ rfl, rfl, ?_⟩ (q od))
    rw [hsz] <;> rfl
  · obtain ⟨hs, hg, hx, es, ep, hdt, hsz, _⟩ := I1.frzT hd
    refine iter_keys hs hg hx hdt (pi_one (tk := s1.toks) I1 _ (turn_keysT _ hdt) ⟨_, Heap.get?_push_size _ rfl, rfl, ?_⟩ q)
    rw [hsz] <;> rfl
section
variable {X : Cx} {K : PySem.W.Frag} {a b c e : Expr} {be : BT} {bm : BM} {S0 H0 S H S' H' : Hp} {σ : L2.St} {env : List (Option T)} {Lf : Nat → List Addr}
theorem iter_frz {p : Addr} {o : Obj} {ks : List (List Int)} (h : S p = some (.frz o (.dT (dtV ks)))) : IterOk K (Itkt p o (dtV ks)) S (ks.map tupI) := by
  have hl : (ks.map tupI).length = ks.length := List.length_map ..
  have hl2 : (dtV ks).length = ks.length := List.length_map ..
  refine ⟨fun i H e hi => ⟨e _ _ h, by omega⟩, fun H e => ⟨e _ _ h, by omega⟩, fun i Sc H x H' hi e1 e2 y => ?_⟩
  obtain ⟨rfl, k, v, q, hk, rfl, hq⟩ := y
  unfold dtV at hk
  rw [List.getElem?_map] at hk
  obtain ⟨kk, h1, h2⟩ := Option.map_eq_some_iff.mp hk
  cases h2
  have hq2 : H' q = some (.tup (kk.map V.int)) := by
    rw [hq, List.map_map]
    rfl
  have ea := ext_adopt (L := [q]) e2 fun b m => by
    rw [List.mem_singleton] at m
    subst m
    exact ⟨_, hq2⟩
  exact ⟨tupI kk, _, by rw [List.getElem?_map, h1]; rfl, ea, .tup (.inl (.inl ((shr_in (by simp)).trans hq2))) (Ats.of_ints kk)⟩
theorem ext_frz {p : Addr} {o : Obj} {u v : HO} (e : Ext S H S' H') (h0 : H p = none) (h1 : S' p = none) (h2 : H' p = some v) : Ext S H (upd S' p (.frz o u)) (upd H' p (.frz o u)) := by
  refine ⟨fun a w q => ?_, fun a w q => ?_, fun a w q => ?_, fun a w q => ?_⟩
  · have := e.s a w q
    rw [upd_ne (ne_of_none this h1)]
    exact this
  · rw [upd_ne (ne_of_none q h0)]
    exact e.h a w q
  · by_cases z : a = p
    · subst z
      rw [upd_same] at q ⊢
      exact q
    · rw [upd_ne z] at q ⊢
      exact e.le a w q
  · rw [upd_ne (ne_of_none q h0)]
    exact e.dom a w q
/-- the keys of a dict, new or locked -/
def biDT (b : BT) : BI := fun env Q => b env fun t => (∃ ks, t = .dt ks ∧ Q (ks.map tupI)) ∨ ∃ ks, t.d = .abs (frzP ks) ∧ Q (ks.map tupI)
theorem i_dt {tg : Expr} (h : PB X e be) : PIb X tg e (biDT be) := pi_weak (pi_keysL h) fun σ H R ⟨S, env, Qd, hS, hE, hb, hQ⟩ => by
  refine ⟨S, env, _, hS, hE, hb, fun v S1 H1 t1 O1 q1 => ?_⟩
  rcases q1 with ⟨ks, rfl, q⟩ | ⟨ks, hd, q⟩
  · obtain ⟨e1, L, r, f⟩ := O1
    cases r with
    | @dt p _ hp =>
    obtain ⟨f1, f2⟩ := f.2 p (by simp)
    exact ⟨p, _, rfl, .inl ⟨hp, fun o => hQ _ (upd S1 p (.frz o (.dT (dtV ks)))) _ _ (ext_frz e1 f1 f2 hp) (iter_frz upd_same) q⟩⟩
  · obtain ⟨S2, e2, _, a2⟩ := O1.share
    rw [hd] at a2
    cases a2 with
    | abs hp =>
    obtain ⟨p, o, rfl, h1⟩ := hp S2 (.refl _)
    exact ⟨p, _, rfl, .inr ⟨o, e2.le _ _ h1, hQ _ S2 _ _ e2 (iter_frz h1) q⟩⟩
/-- a new dict, locked for good -/
def mF (bm : BM) : BM := fun env Q => bm env fun t env1 => ∃ ks, t = .dt ks ∧ Q (.sh (.abs (frzP ks))) env1
theorem m_f (h : PM X e bm) : PM X e (mF bm) := pe_weak (pe_frz h) fun σ H Q ⟨S0, H0, S, env, Lf, Qd, o, hb, hQ⟩ => by
  refine ⟨S0, H0, S, env, Lf, _, o, hb, fun v S1 H1 t1 L1 env1 Lf1 e1 o1 r1 p1 k1 ⟨ks, ht, q1⟩ => ?_⟩
  subst ht
  cases r1 with
  | @dt p _ hp =>
  obtain ⟨p2, p3, p4, p5⟩ := p1.2 p (by simp)
  have s1 : Same S1 (upd S1 p (.frz (default : Obj) (.dT (dtV ks)))) := same_new p4
  refine ⟨p, _, rfl, hp, trivial, fun ob => ?_⟩
  have s2 : Same S1 (upd S1 p (.frz ob (.dT (dtV ks)))) := same_new p4
  have o2 : Own X.K S0 H0 (upd S1 p (.frz ob (.dT (dtV ks)))) (upd H1 p (.frz ob (.dT (dtV ks)))) σ env1 Lf1 := by
    refine ⟨ext_frz o1.ext p3 p4 hp, o1.len, fun i t h => ?_, o1.nod, o1.dis, fun i a m => ?_⟩
    · obtain ⟨w, h1, h2⟩ := o1.slot i t h
      exact ⟨w, h1, h2.mono s2 fun a m => upd_ne fun z => by subst z; exact p2 i m⟩
    · obtain ⟨f1, f2, f3⟩ := o1.fr i a m
      have ne : a ≠ p := fun z => by subst z; exact p2 i m
      exact ⟨f1, by rw [upd_ne ne]; exact f2, by rw [upd_ne ne]; exact f3⟩
  refine hQ (.ref p) _ _ (.sh (.abs (frzP ks))) [] env1 Lf1 (e1.trans s2) o2 (.sh (frzP_at upd_same)) pend_nil (fun x u h n => ?_) q1
  obtain ⟨c1, c2, c3, c4⟩ := k1 x u h n
  have ne : x ≠ p := fun z => by subst z; exact c3 (by simp)
  exact ⟨by rw [upd_ne ne]; exact c1, by rw [upd_ne ne]; exact c2, fun m => (by cases m), c4⟩
/-! ### len -/
def rLenF : List V → Hp → VK → Prop := fun xs H Q => ∃ (p : Addr) (o : Obj) (kvs : List (List Key × V)), xs = [.ref p] ∧ H p = some (.frz o (.dT kvs)) ∧ Q (.int ((kvs.length : Nat) : Int)) H
theorem call_len_frz : CallR X (.builtin "len") rLenF := by
  intro pins s σ H xs us Q I r h
  obtain ⟨p, o, kvs, rfl, hp, q⟩ := h
  obtain ⟨u, rfl, rx⟩ := vals1 r
  obtain rfl : u = .ref p := rx
  obtain ⟨z, hd, ys, rel, dd⟩ := dt_rd I.hok (.inr ⟨o, hp⟩)
  have hl : kvs.length = ys.length := Paired.length rel
  have hz : kvs.length ≤ 2 ^ 24 := by
    rw [sizeLine_eq] at z
    omega
  refine call_len_dictH hd dd (by omega) ?_
  rw [← hl]
  exact ⟨.int ((kvs.length : Nat) : Int), H, I.tok _, ⟨_, rfl⟩, q⟩
def fLenF : SpD := fun ds Q => ∃ ks : List (List Int), ds = [.abs (frzP ks)] ∧ Q (.sh (.int ks.length))
theorem c_lenF : BlD X (.builtin "len") fLenF := ⟨_, call_len_frz, fun S H vs ds Q Qd hS h hf hQ => by
  obtain ⟨ks, rfl, hf⟩ := hf
  obtain ⟨v, rfl, a⟩ := ats1 h
  cases a with
  | abs hp =>
  obtain ⟨p, o, rfl, h1⟩ := hp S (.refl _)
  refine ⟨p, o, dtV ks, rfl, hS _ _ h1, ?_⟩
  have e : (dtV ks).length = ks.length := List.length_map ..
  rw [e]
  exact hQ _ S H _ (.sh hS (.int _)) hf⟩
/-! ### not in -/
def fNinD : F2 := fun d e Q => ∃ es, e = .lst es ∧ d.fine 9 = true ∧ (D.lst es).fine 9 = true ∧ Q (.sh (.bl (!es.any fun z => deq z d)))
theorem o_ninD (hu : X.A.units + 65 < cLine) : OpD X (compareOp .NotIn) fNinD := ⟨_, op_notInD hu, fun S H v w d e Q Qd hS h1 h2 hf hQ => by
  obtain ⟨es, rfl, f1, f2, hq⟩ := hf
  refine ⟨d.py, D.pys es, at_dp (h1.mono hS) f1, at_dp (h2.mono hS) f2, fine_shaped f1, fine_shaped f2, ?_⟩
  have e : ((D.pys es).any fun z => PyData.eqv z d.py) = es.any fun z => deq z d := by
    rw [pys_map, List.any_map]
    rfl
  rw [e]
  exact hQ _ S H _ (.sh hS (.bl _)) hq⟩
end
end W
/-! ### sorted of a tuple -/
namespace L2
open PySem PySem.Spec PyProof.Rows
section
variable {prog : Program} {w : World} {A : Around} {E : Value → Shared → Prop} {s : Shared}
/-- the list that is taken off a tuple -/
theorem take_tup {p : Addr} {vs : List Value} {Q : List Value → Shared → Prop} (hp : IsTup s.heap p vs.toArray) (hz : vs.length ≤ sizeLine) (h : Q vs { s with heap := (s.heap.push (seqObj "list" #[] 0)).update s.heap.objs.size (Obj.mapSeq (· ++ vs.toArray)) }) :
    wpAny (model prog w) A (collect (.ref p)) Q E s := by
  obtain ⟨o, ho, hc, n, hd⟩ := id hp
  have hop : (s.heap.push (seqObj "list" #[] 0)).get? p = some o := Heap.get?_push_of_some _ ho
  have new : (s.heap.push (seqObj "list" #[] 0)).get? s.heap.objs.size = some (seqObj "list" #[] 0) := Heap.get?_push_size _ rfl
  have tt : (Value.type "tuple" == Value.type "tuple") = true := by rfl
  have fits : ((#[] : Array Value) ++ vs.toArray).size ≤ sizeLine + 1 := by simp only [Array.size_append, List.size_toArray, List.length_nil]; omega
  unfold collect
  refine wpAny_bind (wpAny_runValue (codeAny_builtin entry_proto_collect' ?_))
  show wpAny (model prog w) _ (do again (.builtin "list.__iadd__" ⟨[← newList [], .ref p], []⟩)) _ _ s
  refine wpAny_bind (wpAny_newList (wpAny_pure ⟨Code.quiet_builtin _ (by decide +kernel), codeAny_builtin entry_list_iadd' ?_⟩))
  show wpAny (model prog w) _ (Builtin.List.listExtendWith (.ref s.heap.objs.size) (.ref p) (.ref s.heap.objs.size)) _ _ { s with heap := s.heap.push (seqObj "list" #[] 0) }
  unfold Builtin.List.listExtendWith
  refine wpAny_bind (wpAny_typeOf (T := "tuple") ⟨o, hop, hc⟩ ?_)
  rw [if_pos (by rw [tt]; simp)]
  refine wpAny_bind (listItems_at hop hd (wpAny_bind (listItems_at (xs := #[]) (n := 0) new rfl ?_)))
  rw [if_neg (by simp)]
  refine wpAny_bind (listUpdate_at (xs := #[]) (n := 0) new rfl (wpAny_pure ?_) (Nat.zero_le _) fits)
  show wpAny (model prog w) A (do
      let z ← load s.heap.objs.size
      match z.data with
      | .seq xs _ => pure xs.toList
      | _ => unsupported "internal:collect") Q E { s with heap := (s.heap.push (seqObj "list" #[] 0)).update s.heap.objs.size (Obj.mapSeq (· ++ vs.toArray)) }
  refine wpAny_bind (wpAny_load (get?_update_seq new _) ?_)
  have ee : ((#[] : Array Value) ++ vs.toArray).toList = vs := by simp
  show wpAny (model prog w) A (pure ((#[] : Array Value) ++ vs.toArray).toList) Q E _
  rw [ee]
  exact wpAny_pure h
theorem sorted_tupI {p : Addr} {vs : List Value} {ns : List Int} {Q : Value → Shared → Prop} (hp : IsTup s.heap p vs.toArray) (hI : IntsAre vs ns) (h64 : vs.length < 64)
    (h : ∀ (out : Array Value) (ns' : List Int), IntsAre out.toList ns' → ns'.Perm ns → ns'.Pairwise (· ≤ ·) → Q (.ref (s.heap.objs.size + 1)) { s with heap := sortedAll s.heap vs out }) :
    wpAny (model prog w) A (call (.builtin "sorted") [.ref p]) Q E s := by
  have hz : vs.length ≤ sizeLine := small64 h64
  have hn : ((s.heap.push (seqObj "list" #[] 0)).update s.heap.objs.size (Obj.mapSeq (· ++ vs.toArray))).objs.size = s.heap.objs.size + 1 := by rw [Heap.size_update, size_push']
  have hL : (((s.heap.push (seqObj "list" #[] 0)).update s.heap.objs.size (Obj.mapSeq (· ++ vs.toArray))).push (seqObj "list" vs.toArray 0)).get? (s.heap.objs.size + 1) = some (seqObj "list" vs.toArray 0) := by
    rw [← hn]
    exact Heap.get?_push_size _ rfl
  refine Calls.call_function_entry kind_sorted plain_sorted entry_sorted (args_sorted1 _) ?_
  unfold Builtin.«sorted»
  refine wpAny_bind (m := checkCount "sorted" 1 1 _) (wpAny_pure (wpAny_bind (take_tup hp hz (wpAny_bind (wpAny_newList ?_)))))
  show wpAny (model prog w) _ _ _ _ { s with heap := ((s.heap.push (seqObj "list" #[] 0)).update s.heap.objs.size (Obj.mapSeq (· ++ vs.toArray))).push (seqObj "list" vs.toArray 0) }
  rw [hn]
  refine wpAny_bind (wpAny_holding (wpAny_call_entry slot_list_sort ⟨_, hL, rfl⟩ entry_list_sort (list_sort_tree hL hI h64 fun out ns' b1 b2 b3 => ⟨_, rfl, wpAny_pure ⟨_, rfl, h out ns' b1 b2 b3⟩⟩) (args_list_sort _)))
end
def rSortTu (K : PySem.W.Frag) : List V → Hp → VK → Prop := fun vs H Q => ∃ (a : Addr) (ns : List Int), vs = [V.ref a] ∧ SqT K H a (ns.map V.int) ∧ ns.length < 64 ∧ ∀ (ns' : List Int) (p : Addr), ns'.Perm ns → ns'.Pairwise (· ≤ ·) → H p = none → Q (.ref p) (upd H p (.lst (ns'.map V.int)))
theorem cr_sortTu {X : Cx} : CallR X (.builtin "sorted") (rSortTu X.K) := by
  intro pins s σ H vs us Q I r h
  obtain ⟨a, ns, rfl, hs, h64, q⟩ := h
  obtain ⟨its, rv, hl, _⟩ := I.tuple hs
  rw [Vals.ref1 r]
  have hi := rv.ints
  refine sorted_tupI hl hi (by rw [hi.length]; exact h64) fun out ns' h1 h2 h3 => ?_
  obtain ⟨ep, he'⟩ := PyProof.Rows.sortedAll_at s.heap its out
  have hlen : (ns'.map V.int).length ≤ sizeLine := by
    rw [List.length_map, h2.length_eq]
    exact small64 h64
  have J := I.laid (t' := s.toks) (fun _ _ => PyProof.Rows.sortedAll_old) (Nat.le_succ _) (show ObjOk X.prog X.w _ _ _ (.lst (ns'.map V.int)) from ⟨hlen, out.toList, ep, vals_of_ints h1, he'⟩)
  exact ⟨.ref _, _, J, rfl, q ns' _ h2 h3 (I.hok.fresh (Nat.le_succ _))⟩
end L2
namespace W
open PySem L2
section
variable {X : Cx}
def fSortTu : SpD := fun ds Q => ∃ ns : List Int, ds = [.tup (ns.map .int)] ∧ ns.length < 64 ∧ Q (.ow ((srt ns).map D.int))
theorem c_sortTu : BlD X (.builtin "sorted") fSortTu := by
  refine ⟨_, cr_sortTu, fun S H vs ds Q Qd hS h hf hQ => ?_⟩
  obtain ⟨ns, rfl, hn, hf⟩ := hf
  obtain ⟨v, rfl, a⟩ := ats1 h
  cases a with
  | @tup p xs _ hp ha =>
  rw [ha.ints] at hp
  refine ⟨p, ns, rfl, same_t hS hp, hn, fun ns' q h1 h2 hq => ?_⟩
  have e : ns' = srt ns := sorted_one (h1.trans (srt_perm ns).symm) h2 (srt_le ns)
  subst e
  exact hQ _ _ _ _ (.ow hS hq (Ats.of_ints _)) hf
end
/-! ### rows for simp -/
section
variable {a b : Addr} {n m : Int} {w x : List D} {ts : List T} {ks : List (List Int)} {c : Str} {p : Option (Option Int)} {k : Bool}
theorem d_md : (T.md a n w).d = .md n w := rfl
theorem d_ol : (T.ol a w).d = .lst w := rfl
theorem d_ml : (T.ml ts).d = .lst (T.ds ts) := rfl
theorem hideO_ml2 : hideO (some (.ml [.md a n w, .md b m x])) = some (.sh (.lst [.mdn n, .mdn m])) := rfl
theorem clean_dt : (T.dt ks).clean = true := rfl
theorem clean_exc : (D.exc c p).clean = true := rfl
theorem isN_exc {Q : T → Prop} : fIsN false (.exc c p) .non Q = Q (.sh (.bl false)) := rfl
theorem isNn_exc {Q : T → Prop} : fIsN true (.exc c p) .non Q = Q (.sh (.bl true)) := rfl
end
end W

/-! HB: a comprehension whose items are ours, told by a relation. -/
namespace W
open PySem L2
inductive RelL {α : Type} (R : α → T → Prop) : List α → List T → Prop
  | nil : RelL R [] []
  | cons {x : α} {t : T} {xs : List α} {ts : List T} : R x t → RelL R xs ts → RelL R (x :: xs) (t :: ts)
theorem RelL.snoc {α : Type} {R : α → T → Prop} {x : α} {t : T} (h : R x t) : ∀ {xs : List α} {ts : List T}, RelL R xs ts → RelL R (xs ++ [x]) (ts ++ [t])
  | _, _, .nil => .cons h .nil
  | _, _, .cons g r => .cons g (RelL.snoc h r)
theorem RelL.len {α : Type} {R : α → T → Prop} : ∀ {xs : List α} {ts : List T}, RelL R xs ts → ts.length = xs.length
  | _, _, .nil => rfl
  | _, _, .cons _ r => by rw [List.length_cons, List.length_cons, r.len]
theorem RelL.two {α : Type} {R : α → T → Prop} {x y : α} {ts : List T} (h : RelL R [x, y] ts) : ∃ t u, ts = [t, u] ∧ R x t ∧ R y u := by
  cases h with
  | cons h1 r =>
    cases r with
    | cons h2 r =>
      cases r
      exact ⟨_, _, rfl, h1, h2⟩
section
variable {X : Cx} {K : PySem.W.Frag} {pos : Pos}
def bLcR (bi : BI) (tg : Tg) (bt : BTT) (be : BT) (vs : List Nat) : BT := fun env Q => bi env fun items => items.length ≤ 50000 ∧ ∃ (α : Type) (xs : List α) (f : α → D) (R : α → T → Prop), items = xs.map f ∧
  (∀ x ∈ xs, ∃ env1, tg.put (.sh (f x)) (wipeE env vs) = some env1 ∧ bt env1 fun c => c = true ∧ be env1 fun t => R x t) ∧ ∀ ts, RelL R xs ts → Q (.ows ts)
theorem lcR_ref {bi : BI} {tg : Tg} {bt : BTT} {be : BT} {vs : List Nat} (hj : ∀ j ∈ tg.js, j ∈ vs) {σ : L2.St} {H : Hp} {Q : VK} (h : eOf K (bLcR bi tg bt be vs) σ H Q) : tLc (iOf K bi) (tg.g K) (tOf K bt) (eOf K be) vs σ H Q := by
  obtain ⟨S, env, Qd, hS, hE, hb, hQ⟩ := h
  refine ⟨S, env, _, hS, hE, hb, fun J S1 H1 items e1 io ⟨hn, α, xs, f, R, hx, ht, hq⟩ D hD => ?_⟩
  subst hx
  have hlen : (xs.map f).length = xs.length := List.length_map ..
  rw [hlen] at hn
  refine ⟨fun i m Hc => m = xs.length - i ∧ i ≤ xs.length ∧ ∃ ts Sc acc L, RelL R (xs.take i) ts ∧ Ext S1 H1 Sc Hc ∧ Sc D = none ∧ Hc D = some (.lst acc) ∧ Ress K Sc Hc acc ts L ∧ Frs H1 Sc L ∧ D ∉ L,
    ⟨xs.length, by simp, Nat.zero_le _, [], S1, [], [], .nil, ⟨.refl _, same_new hD, e1.le.trans (same_new hD), fun _ _ _ => rfl⟩, Same.none e1.le hD, upd_same, .nil, Frs.nil, by simp⟩, ?_⟩
  rintro i m Hc ⟨rfl, hi, ts, Sc, acc, L, hR, ec, hSD, hHD, ha, hfr, hDL⟩
  by_cases hlt : i < xs.length
  · refine .inr ⟨io.1 i Hc (ec.s.trans ec.le) (by omega), fun H' => i + 1 ≤ xs.length ∧ ∃ ts Sc acc L, RelL R (xs.take (i + 1)) ts ∧ Ext S1 H1 Sc H' ∧ Sc D = none ∧ H' D = some (.lst acc) ∧ Ress K Sc H' acc ts L ∧ Frs H1 Sc L ∧ D ∉ L,
      fun H' h => ⟨xs.length - (i + 1), by omega, rfl, h.1, h.2⟩, fun x H' y => ?_⟩
    obtain ⟨d, S2, hd, e2, a2⟩ := io.2.2 i Sc Hc x H' (by omega) ec.s ec.le y
    have hxi : xs[i]? = some xs[i] := by simp [hlt]
    rw [List.getElem?_map, hxi] at hd
    cases hd
    obtain ⟨env1, hp, hb1⟩ := ht xs[i] (List.getElem_mem hlt)
    have etot := e1.trans (ec.trans e2)
    refine tg_ok (vs0 := vs) e2.le ((hE.mono etot.s).wiped vs) a2 hp hj fun σ' hE' hw => ⟨by rw [hw, wipe_wipe], ?_⟩
    refine ⟨S2, env1, _, e2.le, hE', hb1, fun c S3 H3 e3 ⟨q0, q1⟩ => ?_⟩
    subst q0
    have tk : xs.take (i + 1) = xs.take i ++ [xs[i]] := by rw [List.take_add_one, hxi]; rfl
    refine iteT ?_
    refine ⟨S3, env1, _, e3.le, hE'.mono e3.s, q1, fun u S4 H4 t4 O4 hr => ?_⟩
    obtain ⟨e4, L4, r4, f4⟩ := O4
    have e23 := e2.trans e3
    have ett := e23.trans e4
    have hD4 : S4 D = none := (ett.dom D (.lst _) hHD).trans hSD
    have h3D := e23.h D _ hHD
    have hDL4 : D ∉ L4 := fun m => by rw [(f4.2 D m).1] at h3D; cases h3D
    have kL : ∀ a ∈ L, ∃ o : OM, Hc a = some o.ho := fun a m => ha.lst a m
    refine ⟨acc, ett.h D _ hHD, Nat.lt_of_le_of_lt (m := 50000) ?_ (by decide), hlt, ts ++ [t4], S4, acc ++ [u], L ++ L4, by rw [tk]; exact hR.snoc hr, ⟨ec.s.trans ett.s, fun a o h => ?_, fun a o h => ?_, fun a o h => (ett.dom a o (ec.h a _ h)).trans (ec.dom a o h)⟩, hD4, upd_same, ?_, ⟨List.nodup_append.mpr ⟨hfr.1, f4.1, fun a m1 b m2 z => ?_⟩, fun a m => ?_⟩, fun m => (List.mem_append.mp m).elim hDL hDL4⟩
    · rw [ha.length, hR.len]
      have h2 := List.length_take_le i xs
      omega
    · rw [upd_ne (ne_of_none h hD)]
      exact ett.h a o (ec.h a o h)
    · rw [upd_ne (ne_of_none h hD4)]
      exact ett.le a o h
    · refine (ha.mono ett.s fun a m => ?_).append ?_
      · rw [upd_ne fun z : a = D => hDL (by subst z; exact m)]
        obtain ⟨o, q⟩ := kL a m
        rw [q]
        exact ett.h a _ q
      · have := Ress.cons (r4.mono (.refl S4) (H' := upd H4 D (.lst (acc ++ [u]))) fun a m => upd_ne fun z : a = D => hDL4 (by subst z; exact m)) (Ress.nil (K := K))
        rwa [List.append_nil] at this
    · subst z
      obtain ⟨o, q⟩ := kL a m1
      have := e23.h a _ q
      rw [(f4.2 a m2).1] at this
      cases this
    · rcases List.mem_append.mp m with m | m
      · obtain ⟨o, q⟩ := kL a m
        exact ⟨(hfr.2 a m).1, (ett.dom a o q).trans (hfr.2 a m).2⟩
      · exact ⟨Same.none (ec.h.trans e23.h) (f4.2 a m).1, (f4.2 a m).2⟩
  · have e : i = xs.length := by omega
    subst e
    rw [List.take_length] at hR
    refine .inl ⟨by have := io.2.1 Hc (ec.s.trans ec.le); rwa [hlen] at this, hQ _ Sc Hc _ ⟨e1.trans ec, D :: L, .ows hHD ha, List.nodup_cons.mpr ⟨hDL, hfr.1⟩, fun a m => ?_⟩ (hq ts hR)⟩
    rcases List.mem_cons.mp m with rfl | m
    · exact ⟨Same.none e1.h hD, hSD⟩
    · exact ⟨Same.none e1.h (hfr.2 a m).1, (hfr.2 a m).2⟩
theorem s_setLcR {i : Nat} {y : Str} {py spos : Pos} {bi : BI} {tge elt iter : Expr} {ifs : List Expr} {scope : Scope} {own : List (Str × Nat)} {tg : Tg} {bt : BTT} {be : BT} (all : Bool) (hc : X.calm = true) (hN : X.N.Nodup) (hy : X.N[i]? = some y) (hyl : X.env.scope.names.lookup y = some .local)
    (hsw : swapsWith (.ListComp elt [⟨tge, iter, ifs, 0⟩] scope pos) (some (.Name y py)) spos.line X.env = pure true) (hi : PIb X tge iter bi) (ok : BlkOk X.N X.env.scope scope own)
    (hg : ∀ (s : Shared) (H : Hp) (C : Addr) (cl : List (Str × Addr)) (fp : List Addr), PG (X.blk s H scope (compEnvC scope cl C X.env) fp) tge (tg.g X.K)) (ht : ∀ (s : Shared) (H : Hp) (C : Addr) (cl : List (Str × Addr)) (fp : List Addr), PTs (X.blk s H scope (compEnvC scope cl C X.env) fp) ifs (tOf X.K bt))
    (he : ∀ (s : Shared) (H : Hp) (C : Addr) (cl : List (Str × Addr)) (fp : List Addr), PE (X.blk s H scope (compEnvC scope cl C X.env) fp) elt (eOf X.K be)) (hs : ∀ x, foldedSetIterable iter X.env x = pure x := by intro _; rfl) (hj : ∀ j ∈ tg.js, j ∈ own.map (·.2) := by decide) :
    PSd X (.Assign [.Name y py] (.ListComp elt [⟨tge, iter, ifs, 0⟩] scope pos) spos) (sAsg (.n i) (if all then mA (bLcR bi tg bt be (own.map (·.2))) else mN (bLcR bi tg bt be (own.map (·.2))))) := ps_weak (ps_setLc hc hN hy hyl hsw hi ok hg ht he hs) fun D σ H h => by
  have h2 := asg_ref h
  cases all with
  | true => exact lcR_ref hj (mA_ref h2)
  | false => exact lcR_ref hj (mN_ref h2)
end
theorem mkLst_md2 {a b : Addr} {n m : Int} {w x : List D} : mkLst [.md a n w, .md b m x] = .ows [.md a n w, .md b m x] := rfl
end W

namespace W
open PySem L2
local macro_rules | `(tactic| walk_at "dd") => `(tactic| simp only [sRaise, sRaiseP, sCallX, sSetX, sTry, sTry2, sSeq, sAsg, sAsgG, sDrop, sRet, sRetN, sIf, sNext, sNever, sCont, sApp, sAppT, sIns, sPopAt, sShare, sAppAt, gT2, gX, mS, mN, mA, mT2, sPar3, bLz, qCh3, sPar, sExt, bLr1, bLr2, mPop, mPopAt, mIf, bCount, noIs_n, noIs_c, noI_i, noI_web, mkLst_d, mkTup_d, put_pr, fIx_pr, intsD, webD, mH, half_ows, half_ow, half_sh, half_lst1, half_lst1s, clean_lst1, sets_n, sets_c, List.map_cons, List.map_nil, bOp, bC_eq, bV0, bV1, mV0, mV1, fAdd_i, fAdd_l, fAdd_s, fAdd_t, fMul_i, fMul_l, fI0_eq, fI_eq, fIx_l, fIx_t, fIx_s, fEq_eq, fNe_eq, asB_eq, asI_eq, fLen_l, fLen_f, fLen_t, fLen_s, fList_l, fList_f, fList_t, fTuple_l, fTuple_t, fMax2_i, fMin2_i, fSl_l, fSl_f, fSl_s, fSlS_l, fSlS_t, isN_int, isN_str, isN_lst, isN_tup, isN_bl, isN_non, put_n, put_t2, put_p2, put_t3, d_sh, d_ow, d_tp, d_ows, ds_n, ds_c, hide_n, hide_cons, hideO_sh, hideO_ow, hideO_ows, hideO_tp, hideO_n, wipeE_n, wipeE_c, mkTup_0, mkTup_1, mkTup_2, mkTup_3, mkLst_0, mkLst_1, mkLst_2, mkLst_3, mkLst_4, isOw_ow, isOw_ows, shO_some, shO_none, clean_sh, clean_ow, clean_i, clean_b, clean_s, clean_n, clean_t, cleans_n, cleans_c, fine_i, fine_b, fine_n, deq_i, deq_b, deq_s, n0, n1, List.set_cons_zero, List.set_cons_succ, List.set_nil, Option.some.injEq, exists_eq_left', bCall, baC, baN, qVal, qAnd, qOr, qNot, qYes, bAnd, bOr, bNot, bCh, bIf, bTup, bLst, bSl, bSlS, boN, boS, bRev, bNeg, bIsi, biL, biT, bi1, bi2, bi3, biE, biZ, List.length_cons, List.length_nil, true_and, and_true, Bool.and_true, Bool.true_and, Bool.not_not, reduceCtorEq, false_implies, implies_true, true_implies, forall_const, Bool.not_true, Bool.not_false, Bool.false_or, Bool.true_or, Bool.or_false, Bool.or_true, Bool.and_false, Bool.false_and, tyN_i, isT_i_int, isT_i_bool, isT_i_list, isT_i_tuple, isT_i_str, tyN_b, isT_b_int, isT_b_bool, isT_b_list, isT_b_tuple, isT_b_str, tyN_n, isT_n_int, isT_n_bool, isT_n_list, isT_n_tuple, isT_n_str, tyN_s, isT_s_int, isT_s_bool, isT_s_list, isT_s_tuple, isT_s_str, tyN_l, isT_l_int, isT_l_bool, isT_l_list, isT_l_tuple, isT_l_str, tyN_t, isT_t_int, isT_t_bool, isT_t_list, isT_t_tuple, isT_t_str, tyN_f, isT_f_int, isT_f_bool, isT_f_list, isT_f_tuple, isT_f_str, fInt_i, fInt_b, bLenSet, bMeet, sSubA, tyN_d, isT_d_int, isT_d_bool, isT_d_list, isT_d_tuple, isT_d_str, bLines, bLaid, bPast, bnS_bn, bMeth0, isBn_bn, bMake, mMeth, bnAt_bn, dtAt_dt, sLaidApp, sPastApp, sDPutT, bDNew, sIfN, d_bn, d_dt, hideO_bn, hideO_dt, shO_bn, fSl_t, d_md, d_ol, d_ml, hideO_md, hideO_ol, hideO_ml2, clean_dt, clean_exc, mdS_md, mdN_md, mdN_mdn, bMLines, bMWeb, mOp, mIsi, mtVal, mtNot, mtOr, sIfT, mMeth0, sOlApp, mF])
/-! ### webs.py -/
def D.whole : D → Bool
  | .int _ => true
  | _ => false
def D.among (d : D) (lo hi : Int) : Bool := match d with
  | .int i => decide (lo ≤ i) && decide (i ≤ hi)
  | _ => false
def sp_is_whole : SpD := fun ds Q => ∃ d : D, ds = [d] ∧ d.ty ≠ "" ∧ Q (.sh (.bl d.whole))
abbrev n_is_whole : List Str := ["thing"]
def dt_is_whole : DS := sRet (mN (bAnd (bIsi "int" (bV 0)) (bNot (bIsi "bool" (bV 0)))))

theorem l_is_whole : ∀ ds Q, sp_is_whole ds Q → ds.length = ["thing"].length := by rintro ds Q ⟨d, rfl, _⟩; rfl
theorem d_is_whole : ∀ ds Q, sp_is_whole ds Q → dt_is_whole (ends0 Q) (env0 n_is_whole.length ds) := by
  rintro ds Q ⟨d, rfl, hd, hQ⟩
  show dt_is_whole (ends0 Q) [some (.sh d)]
  unfold dt_is_whole
  walk_at "dd"
  refine ⟨hd, _, fun _ => ⟨hd, rfl⟩, ?_⟩
  cases d <;> first | exact hQ | exact absurd rfl hd
def sp_is_among : SpD := fun ds Q => ∃ (d : D) (lo hi : Int), ds = [d, .int lo, .int hi] ∧ d.ty ≠ "" ∧ Q (.sh (.bl (d.among lo hi)))
abbrev n_is_among : List Str := ["thing", "least", "most"]
def dt_is_among : DS := sRet (mN (bAnd (bCall sp_is_whole (baC (bV 0) baN)) (bCh fLe fLe (bV 1) (bV 0) (bV 2))))

theorem l_is_among : ∀ ds Q, sp_is_among ds Q → ds.length = ["thing", "least", "most"].length := by rintro ds Q ⟨d, lo, hi, rfl, _⟩; rfl
theorem d_is_among : ∀ ds Q, sp_is_among ds Q → dt_is_among (ends0 Q) (env0 n_is_among.length ds) := by
  rintro ds Q ⟨d, lo, hi, rfl, hd, hQ⟩
  show dt_is_among (ends0 Q) [some (.sh d), some (.sh (.int lo)), some (.sh (.int hi))]
  unfold dt_is_among
  walk_at "dd"
  refine ⟨d, rfl, hd, ?_⟩
  walk_at "dd"
  cases d with
  | int i =>
    refine ⟨decide (lo ≤ i) && decide (i ≤ hi), fun _ => ?_, hQ⟩
    walk_at "dd"
    exact ⟨_, fun _ => rfl, rfl⟩
  | _ => exact ⟨false, fun h => (by cases h), hQ⟩
def D.cmpr (n : Int) (d : D) : Bool := match d with
  | .tup [x, y] => x.among 0 (n - 1) && y.among 0 (n - 1) && !deq x y
  | _ => false
def D.tyOk (d : D) : Prop := d.ty ≠ "" ∧ ∀ ds, d = .tup ds → ∀ x ∈ ds, x.ty ≠ ""
theorem among_int {d : D} {lo hi : Int} (h : d.among lo hi = true) : ∃ i, d = .int i ∧ lo ≤ i ∧ i ≤ hi := by
  cases d with
  | int i =>
    have h : (decide (lo ≤ i) && decide (i ≤ hi)) = true := h
    simp only [Bool.and_eq_true, decide_eq_true_eq] at h
    exact ⟨i, rfl, h.1, h.2⟩
  | _ => cases h
def sp_is_comparer : SpD := fun ds Q => ∃ (d : D) (n : Int), ds = [d, .int n] ∧ d.tyOk ∧ Q (.sh (.bl (d.cmpr n)))
abbrev n_is_comparer : List Str := ["thing", "lines"]
def dt_is_comparer : DS := sSeq (sIf (qOr (qNot (qVal (bIsi "tuple" (bV 0)))) (qVal (bOp fNe (bCall fLen (baC (bV 0) baN)) (bC (.int 2))))) (sRet (mN (bC (.bl false)))) sNext) (sRet (mN (bAnd (bCall sp_is_among (baC (bOp fIx (bV 0) (bC (.int 0))) (baC (bC (.int 0)) (baC (bOp fSub (bV 1) (bC (.int 1))) baN)))) (bAnd (bCall sp_is_among (baC (bOp fIx (bV 0) (bC (.int 1))) (baC (bC (.int 0)) (baC (bOp fSub (bV 1) (bC (.int 1))) baN)))) (bOp fNe (bOp fIx (bV 0) (bC (.int 0))) (bOp fIx (bV 0) (bC (.int 1))))))))

theorem l_is_comparer : ∀ ds Q, sp_is_comparer ds Q → ds.length = ["thing", "lines"].length := by rintro ds Q ⟨d, n, rfl, _⟩; rfl
theorem d_is_comparer : ∀ ds Q, sp_is_comparer ds Q → dt_is_comparer (ends0 Q) (env0 n_is_comparer.length ds) := by
  rintro ds Q ⟨d, n, rfl, hd, hQ⟩
  show dt_is_comparer (ends0 Q) [some (.sh d), some (.sh (.int n))]
  unfold dt_is_comparer
  walk_at "dd"
  refine ⟨hd.1, ?_⟩
  cases d with
  | tup ds =>
    have hty := hd.2 ds rfl
    walk_at "dd"
    refine ⟨fun h => ?_, fun h => ?_⟩
    · have hl : ds.length ≠ 2 := by
        have : ¬ ((ds.length : Int) = 2) := by simpa using h
        omega
      match ds, hl, hQ with
      | [], _, hQ => exact hQ
      | [_], _, hQ => exact hQ
      | [_, _], hl, _ => exact absurd rfl hl
      | _ :: _ :: _ :: _, _, hQ => exact hQ
    · have hl : ds.length = 2 := by
        have : ¬ ((ds.length : Int) ≠ 2) := by simpa using h
        omega
      match ds, hl, hQ, hty with
      | [x, y], _, hQ, hty =>
        refine ⟨x, rfl, x, 0, n - 1, rfl, hty x (by simp), ?_⟩
        walk_at "dd"
        refine ⟨y.among 0 (n - 1) && !deq x y, fun hx => ⟨y, rfl, y, 0, n - 1, rfl, hty y (by simp), ?_⟩, by rw [← Bool.and_assoc]; exact hQ⟩
        walk_at "dd"
        refine ⟨!deq x y, fun hy => ?_, rfl⟩
        obtain ⟨i, rfl, _⟩ := among_int hx
        obtain ⟨j, rfl, _⟩ := among_int hy
        exact ⟨_, rfl, _, rfl, rfl, rfl, rfl⟩
  | abs _ => exact absurd rfl hd.1
  | bn _ _ _ => exact absurd rfl hd.1
  | exc _ _ => exact absurd rfl hd.1
  | md _ _ => exact absurd rfl hd.1
  | mdn _ => exact absurd rfl hd.1
  | _ =>
    walk_at "dd"
    exact ⟨false, hQ⟩
def sp_need_lines : SpD := fun ds Q => ∃ n : Nat, ds = [.int n] ∧ 1 ≤ n ∧ n ≤ 10 ∧ Q (.sh .non)
abbrev n_need_lines : List Str := ["lines"]
def dt_need_lines : DS := sIf (qNot (qVal (bCall sp_is_among (baC (bV 0) (baC (bC (.int 1)) (baC (bC (.int 10)) baN)))))) sNever sNext

theorem l_need_lines : ∀ ds Q, sp_need_lines ds Q → ds.length = ["lines"].length := by rintro ds Q ⟨n, rfl, _⟩; rfl
theorem among_n {i lo hi : Int} (h1 : lo ≤ i) (h2 : i ≤ hi) : (D.int i).among lo hi = true := by
  show (decide (lo ≤ i) && decide (i ≤ hi)) = true
  rw [decide_eq_true h1, decide_eq_true h2] <;> rfl
theorem d_need_lines : ∀ ds Q, sp_need_lines ds Q → dt_need_lines (ends0 Q) (env0 n_need_lines.length ds) := by
  rintro ds Q ⟨n, rfl, h1, h2, hQ⟩
  show dt_need_lines (ends0 Q) [some (.sh (.int n))]
  unfold dt_need_lines
  walk_at "dd"
  refine ⟨_, _, _, rfl, ty_i, ?_⟩
  rw [among_n (by omega) (by omega)]
  exact ⟨fun h => (by cases h), fun _ => hQ⟩
theorem cmpr_pr {n : Nat} {c : Nat × Nat} (h : c.1 < n ∧ c.2 < n ∧ c.1 ≠ c.2) : (pr c).cmpr n = true := by
  show ((D.int c.1).among 0 (n - 1) && (D.int c.2).among 0 (n - 1) && !deq (.int c.1) (.int c.2)) = true
  rw [among_n (by omega) (by omega), among_n (by omega) (by omega), deq_i, decide_eq_false (by omega)] <;> rfl
theorem tyOk_pr (c : Nat × Nat) : (pr c).tyOk := ⟨ty_t, fun ds e x m => by
  have e2 : [D.int c.1, D.int c.2] = ds := by injection e
  subst e2
  simp only [List.mem_cons, List.not_mem_nil, or_false] at m
  rcases m with rfl | rfl <;> exact ty_i⟩
def sp_need_web : SpD := fun ds Q => ∃ n cs, ds = [.int (n : Nat), webD cs] ∧ IsWeb n cs ∧ Q (.sh .non)
abbrev n_need_web : List Str := ["lines", "comparers", "place", "comparer"]
def dt_need_web : DS := sSeq (sDrop (mN (bCall sp_need_lines (baC (bV 0) baN)))) (sSeq (sIf (qOr (qNot (qVal (bIsi "list" (bV 1)))) (qVal (bOp fGt (bCall fLen (baC (bV 1) baN)) (bC (.int 60))))) sNever sNext) (sFor (biE (bV 1)) (.t [2, 3]) (sIf (qNot (qVal (bCall sp_is_comparer (baC (bV 3) (baC (bV 0) baN))))) sNever sNext)))

theorem l_need_web : ∀ ds Q, sp_need_web ds Q → ds.length = ["lines", "comparers"].length := by rintro ds Q ⟨n, cs, rfl, _⟩; rfl
theorem d_need_web : ∀ ds Q, sp_need_web ds Q → dt_need_web (ends0 Q) (env0 n_need_web.length ds) := by
  rintro ds Q ⟨n, cs, rfl, hw, hQ⟩
  show dt_need_web (ends0 Q) [some (.sh (.int n)), some (.sh (.lst (cs.map pr))), none, none]
  unfold dt_need_web
  walk_at "dd"
  refine ⟨n, rfl, hw.lo, hw.hi, ?_⟩
  walk_at "dd"
  have h60 := hw.len
  refine ⟨fun h => ?_, fun _ => ?_⟩
  · rw [List.length_map] at h
    simp at h
    omega
  · unfold sFor
    walk_at "dd"
    refine ⟨_, cs.zipIdx 0, _, fun _ env => ∃ a b, env = [some (.sh (.int n)), some (.sh (.lst (cs.map pr))), a, b], enumF_map pr cs 0, ⟨_, _, rfl⟩, ?_, ?_⟩
    · rintro ps ⟨c, i⟩ qs env' hx ⟨a, b, rfl⟩
      have hm : (c, i) ∈ cs.zipIdx 0 := by rw [hx]; simp
      have hc : c ∈ cs := by
        obtain ⟨_, _, h⟩ := List.mem_zipIdx hm
        rw [h]; exact List.getElem_mem _
      walk_at "dd"
      refine ⟨_, _, rfl, tyOk_pr c, ?_⟩
      rw [cmpr_pr (hw.ok c hc)]
      exact ⟨fun h => (by cases h), fun _ => ⟨_, _, rfl⟩⟩
    · rintro env' ⟨a, b, rfl⟩
      exact hQ
def sp_need_row : SpD := fun ds Q => ∃ (n : Nat) (row : List Int), ds = [.int n, intsD row] ∧ row.length = n ∧ n ≤ 10 ∧ Q (.sh .non)
abbrev n_need_row : List Str := ["lines", "row", "number"]
def dt_need_row : DS := sIf (qOr (qNot (qVal (bIsi "list" (bV 1)))) (qOr (qVal (bOp fNe (bCall fLen (baC (bV 1) baN)) (bV 0))) (qNot (qVal (bCall fAll (baC (bLc (biL (bV 1)) (.n 2) qYes (bCall sp_is_whole (baC (bV 2) baN)) [2]) baN)))))) sNever sNext

theorem l_need_row : ∀ ds Q, sp_need_row ds Q → ds.length = ["lines", "row"].length := by rintro ds Q ⟨n, cs, rfl, _⟩; rfl
theorem d_need_row : ∀ ds Q, sp_need_row ds Q → dt_need_row (ends0 Q) (env0 n_need_row.length ds) := by
  rintro ds Q ⟨n, row, rfl, hl, hn, hQ⟩
  show dt_need_row (ends0 Q) [some (.sh (.int n)), some (.sh (.lst (row.map .int))), none]
  unfold dt_need_row
  walk_at "dd"
  refine ⟨false, ⟨false, fun _ => ?_, ?_⟩, fun h => (by cases h), fun _ => hQ⟩
  · unfold bLc
    walk_at "dd"
    refine ⟨by rw [List.length_map]; omega, _, row, D.int, fun _ => some (.bl true), rfl, fun x _ => ?_, ?_⟩
    · exact ⟨_, rfl, ty_i, rfl⟩
    · rw [fm_some]
      refine ⟨row.map fun _ => true, by rw [List.map_map]; rfl, ?_⟩
      walk_at "dd"
      simp
  · simp [hl]
/-! ### running.py -/
def passed (row : List Int) (c : Nat × Nat) : List Int := if row.getD c.2 0 < row.getD c.1 0 then (row.set c.1 (row.getD c.2 0)).set c.2 (row.getD c.1 0) else row
def gone (cs : List (Nat × Nat)) (row : List Int) : List Int := cs.foldl passed row
theorem passed_len (row : List Int) (c : Nat × Nat) : (passed row c).length = row.length := by
  unfold passed
  split <;> simp
theorem gone_len (cs : List (Nat × Nat)) (row : List Int) : (gone cs row).length = row.length := by
  induction cs generalizing row with
  | nil => rfl
  | cons c cs ih =>
    show (gone cs (passed row c)).length = _
    rw [ih, passed_len]
def sp_passed : SpD := fun ds Q => ∃ row c d, ds = [d, pr c] ∧ (d = intsD row ∨ d = .tup (row.map .int)) ∧ c.1 < row.length ∧ c.2 < row.length ∧ Q (owI (passed row c))
abbrev n_passed : List Str := ["row", "comparer", "found", "a", "b"]
def dt_passed : DS := sSeq (sAsg (.t [3, 4]) (mS (mN (bV 1)))) (sSeq (sAsg (.n 2) (mN (bCall fList (baC (bV 0) baN)))) (sCut (sIf (qVal (bOp fGt (bOp fIx (bV 2) (bV 3)) (bOp fIx (bV 2) (bV 4)))) (sAsgG (gT2 (gX 2 (mN (bV 3))) (gX 2 (mN (bV 4)))) (mA (bTup (baC (bOp fIx (bV 2) (bV 4)) (baC (bOp fIx (bV 2) (bV 3)) baN))))) sNext) (sRet (mV 2))))

theorem l_passed : ∀ ds Q, sp_passed ds Q → ds.length = ["row", "comparer"].length := by rintro ds Q ⟨row, c, d, rfl, _⟩; rfl
theorem d_passed : ∀ ds Q, sp_passed ds Q → dt_passed (ends0 Q) (env0 n_passed.length ds) := by
  rintro ds Q ⟨row, ⟨a, b⟩, d, rfl, hd, ha, hb, hQ⟩
  rcases hd with rfl | rfl
  · show dt_passed (ends0 Q) [some (.sh (.lst (row.map .int))), some (.sh (.tup [.int a, .int b])), none, none, none]
    have ha : a < row.length := ha
    have hb : b < row.length := hb
    unfold dt_passed sCut
    walk_at "dd"
    refine ⟨fun env => env = [some (.sh (.lst (row.map .int))), some (.sh (.tup [.int a, .int b])), some (.ow ((passed row (a, b)).map .int)), some (.sh (.int a)), some (.sh (.int b))], ⟨_, atI_int ha, _, atI_int hb, ?_⟩, ?_⟩
    · walk_at "dd"
      refine ⟨fun h => ⟨_, atI_int hb, _, atI_int ha, ?_⟩, fun h => ?_⟩
      · walk_at "dd"
        refine ⟨by decide, a, ixN_nat (by rw [List.length_map]; exact ha), b, ixN_nat (by rw [List.length_set, List.length_map]; exact hb), ?_⟩
        rw [← List.map_set, ← List.map_set]
        unfold passed
        rw [if_pos (of_decide_eq_true h)]
      · unfold passed
        rw [if_neg (of_decide_eq_false h)]
    · rintro env' rfl
      walk_at "dd"
      exact hQ
  · show dt_passed (ends0 Q) [some (.sh (.tup (row.map .int))), some (.sh (.tup [.int a, .int b])), none, none, none]
    have ha : a < row.length := ha
    have hb : b < row.length := hb
    unfold dt_passed sCut
    walk_at "dd"
    refine ⟨fun env => env = [some (.sh (.tup (row.map .int))), some (.sh (.tup [.int a, .int b])), some (.ow ((passed row (a, b)).map .int)), some (.sh (.int a)), some (.sh (.int b))], ⟨_, atI_int ha, _, atI_int hb, ?_⟩, ?_⟩
    · walk_at "dd"
      refine ⟨fun h => ⟨_, atI_int hb, _, atI_int ha, ?_⟩, fun h => ?_⟩
      · walk_at "dd"
        refine ⟨by decide, a, ixN_nat (by rw [List.length_map]; exact ha), b, ixN_nat (by rw [List.length_set, List.length_map]; exact hb), ?_⟩
        rw [← List.map_set, ← List.map_set]
        unfold passed
        rw [if_pos (of_decide_eq_true h)]
      · unfold passed
        rw [if_neg (of_decide_eq_false h)]
    · rintro env' rfl
      walk_at "dd"
      exact hQ
def sp_gone : SpD := fun ds Q => ∃ cs row, ds = [webD cs, intsD row] ∧ (∀ c ∈ cs, c.1 < row.length ∧ c.2 < row.length) ∧ Q (owI (gone cs row))
abbrev n_gone : List Str := ["comparers", "row", "comparer"]
def dt_gone : DS := sSeq (sFor (biL (bV 0)) (.n 2) (sAsg (.n 1) (mS (mN (bCall sp_passed (baC (bV 1) (baC (bV 2) baN))))))) (sRet (mN (bCall fList (baC (bV 1) baN))))

theorem l_gone : ∀ ds Q, sp_gone ds Q → ds.length = ["comparers", "row"].length := by rintro ds Q ⟨row, c, rfl, _⟩; rfl
theorem gone_snoc (cs : List (Nat × Nat)) (c : Nat × Nat) (row : List Int) : gone (cs ++ [c]) row = passed (gone cs row) c := by
  unfold gone
  rw [List.foldl_append] <;> rfl
theorem d_gone : ∀ ds Q, sp_gone ds Q → dt_gone (ends0 Q) (env0 n_gone.length ds) := by
  rintro ds Q ⟨cs, row, rfl, hc, hQ⟩
  show dt_gone (ends0 Q) [some (.sh (.lst (cs.map pr))), some (.sh (intsD row)), none]
  unfold dt_gone
  unfold sFor
  walk_at "dd"
  refine ⟨_, cs, pr, fun ps env => ∃ x, env = [some (.sh (.lst (cs.map pr))), some (.sh (intsD (gone ps row))), x], rfl, ⟨_, rfl⟩, ?_, ?_⟩
  · rintro ps c qs env' hx ⟨x, rfl⟩
    obtain ⟨h1, h2⟩ := hc c (by rw [hx]; simp)
    walk_at "dd"
    refine ⟨_, c, _, rfl, .inl rfl, by rw [gone_len]; exact h1, by rw [gone_len]; exact h2, some (.sh (pr c)), ?_⟩
    rw [gone_snoc, owI_d]
    rfl
  · rintro env' ⟨x, rfl⟩
    walk_at "dd"
    exact hQ
def sp_run : SpD := fun ds Q => ∃ (n : Nat) (cs : List (Nat × Nat)) (row : List Int), ds = [.int n, webD cs, intsD row] ∧ IsWeb n cs ∧ row.length = n ∧ Q (owI (gone cs row))
abbrev n_run : List Str := ["lines", "comparers", "row"]
def dt_run : DS := sSeq (sDrop (mN (bCall sp_need_web (baC (bV 0) (baC (bV 1) baN))))) (sSeq (sDrop (mN (bCall sp_need_row (baC (bV 0) (baC (bV 2) baN))))) (sRet (mN (bCall sp_gone (baC (bV 1) (baC (bV 2) baN))))))

theorem l_run : ∀ ds Q, sp_run ds Q → ds.length = ["lines", "comparers", "row"].length := by rintro ds Q ⟨n, row, c, rfl, _⟩; rfl
theorem d_run : ∀ ds Q, sp_run ds Q → dt_run (ends0 Q) (env0 n_run.length ds) := by
  rintro ds Q ⟨n, cs, row, rfl, hw, hl, hQ⟩
  show dt_run (ends0 Q) [some (.sh (.int n)), some (.sh (webD cs)), some (.sh (intsD row))]
  unfold dt_run
  walk_at "dd"
  refine ⟨n, cs, rfl, hw, n, row, rfl, hl, hw.hi, cs, row, rfl, fun c m => ?_, hQ⟩
  obtain ⟨h1, h2, _⟩ := hw.ok c m
  exact ⟨by omega, by omega⟩
/-- the rows ahead of each comparer, and at last -/
def stepsL : List (Nat × Nat) → List Int → List (List Int)
  | [], row => [row]
  | c :: cs, row => row :: stepsL cs (passed row c)
theorem stepsL_snoc : ∀ (cs : List (Nat × Nat)) (c : Nat × Nat) (row : List Int), stepsL (cs ++ [c]) row = stepsL cs row ++ [passed (gone cs row) c]
  | [], _, _ => rfl
  | d :: cs, c, row => by
    show row :: stepsL (cs ++ [c]) (passed row d) = _
    rw [stepsL_snoc cs c (passed row d)]
    rfl
theorem stepsL_last : ∀ (cs : List (Nat × Nat)) (row : List Int), ∃ l, stepsL cs row = l ++ [gone cs row]
  | [], row => ⟨[], rfl⟩
  | c :: cs, row => by
    obtain ⟨l, h⟩ := stepsL_last cs (passed row c)
    exact ⟨row :: l, by show row :: stepsL cs (passed row c) = _; rw [h]; rfl⟩
theorem stepsL_len : ∀ (cs : List (Nat × Nat)) (row : List Int), (stepsL cs row).length = cs.length + 1
  | [], _ => rfl
  | c :: cs, row => by
    show (row :: stepsL cs (passed row c)).length = _
    rw [List.length_cons, stepsL_len cs, List.length_cons]
theorem ds_owI (l : List (List Int)) : T.ds (l.map owI) = l.map intsD := by
  rw [T.ds_map, List.map_map]; rfl
def sp_steps : SpD := fun ds Q => ∃ (n : Nat) (cs : List (Nat × Nat)) (row : List Int), ds = [.int n, webD cs, intsD row] ∧ IsWeb n cs ∧ row.length = n ∧ Q (.ows ((stepsL cs row).map owI))
abbrev n_steps : List Str := ["lines", "comparers", "row", "found", "comparer"]
def dt_steps : DS := sSeq (sDrop (mN (bCall sp_need_web (baC (bV 0) (baC (bV 1) baN))))) (sSeq (sDrop (mN (bCall sp_need_row (baC (bV 0) (baC (bV 2) baN))))) (sSeq (sAsg (.n 3) (mN (bLst (baC (bCall fList (baC (bV 2) baN)) baN)))) (sSeq (sFor (biL (bV 1)) (.n 4) (sAppT 3 (mA (bCall sp_passed (baC (bOp fIx (bV 3) (bNeg (bC (.int 1)))) (baC (bV 4) baN)))))) (sRet (mV 3)))))

theorem l_steps : ∀ ds Q, sp_steps ds Q → ds.length = ["lines", "comparers", "row"].length := by rintro ds Q ⟨n, row, c, rfl, _⟩; rfl
theorem d_steps : ∀ ds Q, sp_steps ds Q → dt_steps (ends0 Q) (env0 n_steps.length ds) := by
  rintro ds Q ⟨n, cs, row, rfl, hw, hl, hQ⟩
  show dt_steps (ends0 Q) [some (.sh (.int n)), some (.sh (.lst (cs.map pr))), some (.sh (.lst (row.map .int))), none, none]
  unfold dt_steps
  walk_at "dd"
  refine ⟨n, cs, rfl, hw, n, row, rfl, hl, hw.hi, by decide, ?_⟩
  unfold sFor
  walk_at "dd"
  refine ⟨_, cs, pr, fun ps env => ∃ x, env = [some (.sh (.int n)), some (.sh (.lst (cs.map pr))), some (.sh (.lst (row.map .int))), some (.ows ((stepsL ps row).map owI)), x], rfl, ⟨_, rfl⟩, ?_, ?_⟩
  · rintro ps c qs env' hx ⟨x, rfl⟩
    obtain ⟨h1, h2, _⟩ := hw.ok c (by rw [hx]; simp)
    have hps : ps.length ≤ 60 := by
      have := hw.len
      rw [hx] at this
      simp at this
      omega
    obtain ⟨l, hl2⟩ := stepsL_last ps row
    walk_at "dd"
    rw [ds_owI, hl2, List.map_append, List.map_cons, List.map_nil]
    refine ⟨intsD (gone ps row), atI_last _ _, gone ps row, c, _, rfl, .inl rfl, by rw [gone_len]; omega, by rw [gone_len]; omega, ?_⟩
    have hc : (owI (passed (gone ps row) c)).clean = true := clean_ints _
    refine ⟨hc, ?_, some (.sh (pr c)), ?_⟩
    · have := stepsL_len ps row
      rw [hl2] at this
      simp at this ⊢
      omega
    · rw [stepsL_snoc, hl2]
      simp
  · rintro env' ⟨x, rfl⟩
    walk_at "dd"
    exact hQ
end W

/-! PL: what the laws' own texts share. -/
namespace W
open PySem L2
local macro_rules | `(tactic| walk_at "dd") => `(tactic| simp only [sRaise, sRaiseP, sCallX, sSetX, sTry, sTry2, sSeq, sAsg, sAsgG, sDrop, sRet, sRetN, sIf, sNext, sNever, sCont, sApp, sAppT, sIns, sPopAt, sShare, sAppAt, gT2, gX, mS, mN, mA, mT2, sPar3, bLz, qCh3, sPar, sExt, bLr1, bLr2, mPop, mPopAt, mIf, bCount, noIs_n, noIs_c, noI_i, noI_web, mkLst_d, mkTup_d, put_pr, fIx_pr, intsD, webD, mH, half_ows, half_ow, half_sh, half_lst1, half_lst1s, clean_lst1, sets_n, sets_c, List.map_cons, List.map_nil, bOp, bC_eq, bV0, bV1, mV0, mV1, fAdd_i, fAdd_l, fAdd_s, fAdd_t, fMul_i, fMul_l, fI0_eq, fI_eq, fIx_l, fIx_t, fIx_s, fEq_eq, fNe_eq, asB_eq, asI_eq, fLen_l, fLen_f, fLen_t, fLen_s, fList_l, fList_f, fList_t, fTuple_l, fTuple_t, fMax2_i, fMin2_i, fSl_l, fSl_f, fSl_s, fSlS_l, fSlS_t, isN_int, isN_str, isN_lst, isN_tup, isN_bl, isN_non, put_n, put_t2, put_p2, put_t3, d_sh, d_ow, d_tp, d_ows, ds_n, ds_c, hide_n, hide_cons, hideO_sh, hideO_ow, hideO_ows, hideO_tp, hideO_n, wipeE_n, wipeE_c, mkTup_0, mkTup_1, mkTup_2, mkTup_3, mkLst_0, mkLst_1, mkLst_2, mkLst_3, mkLst_4, isOw_ow, isOw_ows, shO_some, shO_none, clean_sh, clean_ow, clean_i, clean_b, clean_s, clean_n, clean_t, cleans_n, cleans_c, fine_i, fine_b, fine_n, deq_i, deq_b, deq_s, n0, n1, List.set_cons_zero, List.set_cons_succ, List.set_nil, Option.some.injEq, exists_eq_left', bCall, baC, baN, qVal, qAnd, qOr, qNot, qYes, bAnd, bOr, bNot, bCh, bIf, bTup, bLst, bSl, bSlS, boN, boS, bRev, bNeg, bIsi, biL, biT, bi1, bi2, bi3, biE, biZ, List.length_cons, List.length_nil, true_and, and_true, Bool.and_true, Bool.true_and, Bool.not_not, reduceCtorEq, false_implies, implies_true, true_implies, forall_const, Bool.not_true, Bool.not_false, Bool.false_or, Bool.true_or, Bool.or_false, Bool.or_true, Bool.and_false, Bool.false_and, tyN_i, isT_i_int, isT_i_bool, isT_i_list, isT_i_tuple, isT_i_str, tyN_b, isT_b_int, isT_b_bool, isT_b_list, isT_b_tuple, isT_b_str, tyN_n, isT_n_int, isT_n_bool, isT_n_list, isT_n_tuple, isT_n_str, tyN_s, isT_s_int, isT_s_bool, isT_s_list, isT_s_tuple, isT_s_str, tyN_l, isT_l_int, isT_l_bool, isT_l_list, isT_l_tuple, isT_l_str, tyN_t, isT_t_int, isT_t_bool, isT_t_list, isT_t_tuple, isT_t_str, tyN_f, isT_f_int, isT_f_bool, isT_f_list, isT_f_tuple, isT_f_str, fInt_i, fInt_b, bLenSet, bMeet, sSubA, tyN_d, isT_d_int, isT_d_bool, isT_d_list, isT_d_tuple, isT_d_str, bLines, bLaid, bPast, bnS_bn, bMeth0, isBn_bn, bMake, mMeth, bnAt_bn, dtAt_dt, sLaidApp, sPastApp, sDPutT, bDNew, sIfN, d_bn, d_dt, hideO_bn, hideO_dt, shO_bn, fSl_t, d_md, d_ol, d_ml, hideO_md, hideO_ol, hideO_ml2, clean_dt, clean_exc, mdS_md, mdN_md, mdN_mdn, bMLines, bMWeb, mOp, mIsi, mtVal, mtNot, mtOr, sIfT, mMeth0, sOlApp, mF])
theorem RgC_pos {a b c : Int} (a0 : -1000000 ≤ a) (a1 : a ≤ 1000000) (b0 : -1000000 ≤ b) (b1 : b ≤ 1000000) (c0 : 1 ≤ c) (c1 : c ≤ 1000000) : ∃ k : Nat, RgC a b c k ∧ (k : Int) ≤ 2000000 ∧ ∀ i : Nat, i < k → a + (i : Int) * c < b := by
  have key : ∃ k : Nat, Builtin.Range.rangeSize a b c = k ∧ (k : Int) ≤ 2000000 ∧ ∀ i : Nat, i < k → a + (i : Int) * c < b := by
    unfold Builtin.Range.rangeSize
    rw [if_pos (by omega)]
    by_cases h : a < b
    · rw [if_pos h]
      have h1 : 0 ≤ (b - a - 1) / c := Int.ediv_nonneg (by omega) (by omega)
      have h2 : (b - a - 1) / c ≤ b - a - 1 := Int.ediv_le_self _ (by omega)
      refine ⟨((b - a - 1) / c + 1).toNat, by omega, by omega, fun i hi => ?_⟩
      have h3 : (i : Int) ≤ (b - a - 1) / c := by omega
      have h4 : (i : Int) * c ≤ (b - a - 1) / c * c := Int.mul_le_mul_of_nonneg_right h3 (by omega)
      have h5 : (b - a - 1) / c * c ≤ b - a - 1 := Int.ediv_mul_le _ (by omega)
      omega
    · rw [if_neg h]
      exact ⟨0, rfl, by omega, fun i hi => absurd hi (Nat.not_lt_zero _)⟩
  obtain ⟨k, hk, hk2, hk3⟩ := key
  refine ⟨k, ⟨by omega, by omega, ?_, hk⟩, hk2, hk3⟩
  unfold Builtin.Range.small
  rw [hk, if_pos (show c > 0 by omega)]
  simp only [Builtin.Range.rangeFitsLong, Bool.and_eq_true, Bool.or_eq_true, decide_eq_true_eq, beq_iff_eq]
  omega
def draw (c k j : Int) : Int := (c % 2147483629 * 48271 + ((k + 3) * (k + 3) * 40692 + (j + 7) * (j + 7) * 69621)) % 2147483647 * 16807 % 2147483629 / 3
theorem draw_lo (c k j : Int) : 0 ≤ draw c k j := by unfold draw; omega
theorem draw_hi (c k j : Int) : draw c k j ≤ 715827876 := by unfold draw; omega
def sp__law_draw : SpD := fun ds Q => ∃ c k j : Int, ds = [.int c, .int k, .int j] ∧ (0 ≤ k ∧ k ≤ 1000000 ∧ 0 ≤ j ∧ j ≤ 1000000) ∧ Q (.sh (.int (draw c k j)))
abbrev n__law_draw : List Str := ["_law_cell", "_law_k", "_law_j", "_law_more"]
def dt__law_draw : DS := sSeq (sAsg (.n 3) (mS (mN (bOp fAdd (bOp fMul (bOp fMul (bOp fAdd (bV 1) (bC (.int 3))) (bOp fAdd (bV 1) (bC (.int 3)))) (bC (.int 40692))) (bOp fMul (bOp fMul (bOp fAdd (bV 2) (bC (.int 7))) (bOp fAdd (bV 2) (bC (.int 7)))) (bC (.int 69621))))))) (sRet (mN (bOp fDiv (bOp fMod (bOp fMul (bOp fMod (bOp fAdd (bOp fMul (bOp fMod (bV 0) (bC (.int 2147483629))) (bC (.int 48271))) (bV 3)) (bC (.int 2147483647))) (bC (.int 16807))) (bC (.int 2147483629))) (bC (.int 3)))))

theorem l__law_draw : ∀ ds Q, sp__law_draw ds Q → ds.length = ["_law_cell", "_law_k", "_law_j"].length := by rintro ds Q ⟨_, _, _, rfl, _⟩; rfl
theorem d__law_draw : ∀ ds Q, sp__law_draw ds Q → dt__law_draw (ends0 Q) (env0 n__law_draw.length ds) := by
  rintro ds Q ⟨c, k, j, rfl, ⟨k0, k1, j0, j1⟩, hQ⟩
  show dt__law_draw (ends0 Q) [some (.sh (.int c)), some (.sh (.int k)), some (.sh (.int j)), none]
  unfold dt__law_draw
  walk_at "dd"
  refine ⟨.inl ⟨by omega, by omega⟩, .inr (by decide), .inl ⟨by omega, by omega⟩, .inr (by decide), by decide, .inr (by decide), by decide, .inr (by decide), by decide, ⟨by decide, by decide⟩, hQ⟩
def cmpOf (n : Int) (L : Nat) : Nat × Nat :=
  let a := n % L
  let b := (a + 1 + n / 10 % (L - 1)) % L
  if n / 100 % 3 > 0 then ((min a b).toNat, (max a b).toNat) else (a.toNat, b.toNat)
theorem cmp_ab {n : Int} {L : Nat} (h0 : 0 ≤ n) (hL : 2 ≤ L) : 0 ≤ n % (L : Int) ∧ n % (L : Int) < L ∧ 0 ≤ (n % (L : Int) + 1 + n / 10 % ((L : Int) - 1)) % L ∧ (n % (L : Int) + 1 + n / 10 % ((L : Int) - 1)) % L < L ∧ (n % (L : Int) + 1 + n / 10 % ((L : Int) - 1)) % L ≠ n % (L : Int) := by
  have a0 := Int.emod_nonneg n (show (L : Int) ≠ 0 by omega)
  have a1 := Int.emod_lt_of_pos n (show (0 : Int) < L by omega)
  have x0 := Int.emod_nonneg (n / 10) (show (L : Int) - 1 ≠ 0 by omega)
  have x1 := Int.emod_lt_of_pos (n / 10) (show (0 : Int) < (L : Int) - 1 by omega)
  generalize n % (L : Int) = a at *
  generalize n / 10 % ((L : Int) - 1) = x at *
  by_cases h : a + 1 + x < L
  · rw [Int.emod_eq_of_lt (by omega) h]
    omega
  · have e : (a + 1 + x) % (L : Int) = a + 1 + x - L := by
      rw [← Int.sub_emod_right, Int.emod_eq_of_lt (by omega) (by omega)]
    rw [e]
    omega
theorem cmpOf_ok {n : Int} {L : Nat} (h0 : 0 ≤ n) (hL : 2 ≤ L) : (cmpOf n L).1 < L ∧ (cmpOf n L).2 < L ∧ (cmpOf n L).1 ≠ (cmpOf n L).2 := by
  obtain ⟨a0, a1, b0, b1, ne⟩ := cmp_ab h0 hL
  unfold cmpOf
  simp only
  generalize n % (L : Int) = a at *
  generalize (a + 1 + n / 10 % ((L : Int) - 1)) % (L : Int) = b at *
  split
  · simp only
    omega
  · simp only
    omega
def sp__law_comparer : SpD := fun ds Q => ∃ (n : Int) (L : Nat), ds = [.int n, .int L] ∧ 0 ≤ n ∧ 2 ≤ L ∧ L ≤ 1000 ∧ Q (.sh (pr (cmpOf n L)))
abbrev n__law_comparer : List Str := ["_law_n", "_law_lines", "_law_a", "_law_b"]
def dt__law_comparer : DS := sSeq (sAsg (.n 2) (mS (mN (bOp fMod (bV 0) (bV 1))))) (sSeq (sAsg (.n 3) (mS (mN (bOp fMod (bOp fAdd (bOp fAdd (bV 2) (bC (.int 1))) (bOp fMod (bOp fDiv (bV 0) (bC (.int 10))) (bOp fSub (bV 1) (bC (.int 1))))) (bV 1))))) (sRet (mN (bIf (qVal (bOp fGt (bOp fMod (bOp fDiv (bV 0) (bC (.int 100))) (bC (.int 3))) (bC (.int 0)))) (bTup (baC (bCall fMin2 (baC (bV 2) (baC (bV 3) baN))) (baC (bCall fMax2 (baC (bV 2) (baC (bV 3) baN))) baN))) (bTup (baC (bV 2) (baC (bV 3) baN)))))))

theorem l__law_comparer : ∀ ds Q, sp__law_comparer ds Q → ds.length = ["_law_n", "_law_lines"].length := by rintro ds Q ⟨_, _, rfl, _⟩; rfl
theorem d__law_comparer : ∀ ds Q, sp__law_comparer ds Q → dt__law_comparer (ends0 Q) (env0 n__law_comparer.length ds) := by
  rintro ds Q ⟨n, L, rfl, h0, hL, hL2, hQ⟩
  obtain ⟨a0, a1, b0, b1, ne⟩ := cmp_ab h0 hL
  show dt__law_comparer (ends0 Q) [some (.sh (.int n)), some (.sh (.int L)), none, none]
  unfold dt__law_comparer
  walk_at "dd"
  refine ⟨by omega, ⟨by decide, by decide⟩, by omega, by omega, ⟨by decide, by decide⟩, by decide, .sh (pr (cmpOf n L)), fun h => ⟨by decide, ?_⟩, fun h => ⟨by decide, ?_⟩, hQ⟩
  · have h := of_decide_eq_true h
    unfold cmpOf pr
    simp only
    rw [if_pos h]
    congr 2
    simp only [List.cons.injEq, D.int.injEq, and_true]
    omega
  · have h := of_decide_eq_false h
    unfold cmpOf pr
    simp only
    rw [if_neg h]
    congr 2
    simp only [List.cons.injEq, D.int.injEq, and_true]
    omega
/-- any web of at most so many comparers that lie in so many lines -/
structure InWeb (n m : Nat) (cs : List (Nat × Nat)) : Prop where
  len : cs.length ≤ m
  ok : ∀ c ∈ cs, c.1 < n ∧ c.2 < n ∧ c.1 ≠ c.2
def sp__law_bricks : SpD := fun ds Q => ∃ L : Nat, ds = [.int L] ∧ 2 ≤ L ∧ L ≤ 7 ∧ ∀ cs, InWeb L 60 cs → Q (.ow (cs.map pr))
abbrev n__law_bricks : List Str := ["_law_lines", "_law_found", "_law_turn", "_law_k"]
def dt__law_bricks : DS := sSeq (sAsg (.n 1) (mN (bLst baN))) (sSeq (sFor (bi1 (baC (bV 0) baN)) (.n 2) (sAsg (.n 1) (mA (bOp fAdd (bV 1) (bLc (bi3 (baC (bOp fMod (bV 2) (bC (.int 2))) (baC (bOp fSub (bV 0) (bC (.int 1))) (baC (bC (.int 2)) baN)))) (.n 3) qYes (bTup (baC (bV 3) (baC (bOp fAdd (bV 3) (bC (.int 1))) baN))) [3]))))) (sRet (mV 1)))

theorem l__law_bricks : ∀ ds Q, sp__law_bricks ds Q → ds.length = ["_law_lines"].length := by rintro ds Q ⟨_, rfl, _⟩; rfl
theorem d__law_bricks : ∀ ds Q, sp__law_bricks ds Q → dt__law_bricks (ends0 Q) (env0 n__law_bricks.length ds) := by
  rintro ds Q ⟨L, rfl, hL, hL2, hQ⟩
  show dt__law_bricks (ends0 Q) [some (.sh (.int L)), none, none, none]
  unfold dt__law_bricks
  walk_at "dd"
  unfold sFor
  walk_at "dd"
  refine ⟨by decide, by omega, by omega, _, List.range L, _, fun ps env => ∃ cs x y, env = [some (.sh (.int L)), some (.ow (cs.map pr)), x, y] ∧ InWeb L (8 * ps.length) cs, by rw [Int.toNat_natCast]; exact ups_range L, ⟨[], none, none, rfl, by simp, fun c m => by cases m⟩, ?_, ?_⟩
  · rintro ps t qs env' hx ⟨cs, x, y, rfl, hw⟩
    have hlen := congrArg List.length hx
    simp at hlen
    have ht0 : (0 : Int) ≤ (t : Int) % 2 := by omega
    have ht1 : (t : Int) % 2 < 2 := by omega
    obtain ⟨k, hk, hk2, hk3⟩ := RgC_pos (a := (t : Int) % 2) (b := (L : Int) - 1) (c := 2) (by omega) (by omega) (by omega) (by omega) (by decide) (by decide)
    have hk8 : k ≤ 8 := by
      by_cases h : k = 0
      · omega
      · have := hk3 (k - 1) (by omega)
        omega
    walk_at "dd"
    unfold bLc
    walk_at "dd"
    refine ⟨by decide, k, hk, by rw [List.length_map, ups_len]; omega, _, ups ((t : Int) % 2) 2 k, D.int, fun i => some (.tup [.int i, .int (i + 1)]), rfl, fun i hi => ⟨by decide, ?_⟩, ?_⟩
    · rfl
    · rw [fm_some]
      have e : (ups ((t : Int) % 2) 2 k).map (fun i => D.tup [.int i, .int (i + 1)]) = ((ups ((t : Int) % 2) 2 k).map fun i => (i.toNat, (i + 1).toNat)).map pr := by
        rw [List.map_map]
        apply List.map_congr_left
        intro i hi
        obtain ⟨j, hj, rfl⟩ := List.mem_map.mp hi
        show D.tup [D.int _, D.int _] = D.tup [D.int _, D.int _]
        simp only [D.tup.injEq, List.cons.injEq, D.int.injEq, and_true]
        omega
      rw [e, ← List.map_append]
      have hcl := hw.len
      refine ⟨by rw [List.length_map, List.length_map, List.length_map, ups_len]; omega, clean_prs _, _, _, _, rfl, by rw [List.length_append, List.length_map, ups_len, List.length_append]; simp; omega, fun c hc => ?_⟩
      rcases List.mem_append.mp hc with hc | hc
      · exact hw.ok c hc
      · obtain ⟨i, hi, rfl⟩ := List.mem_map.mp hc
        obtain ⟨j, hj, rfl⟩ := List.mem_map.mp hi
        have := hk3 j (by simpa using hj)
        simp only
        omega
  · rintro env' ⟨cs, x, y, rfl, hw⟩
    walk_at "dd"
    refine hQ cs ⟨Nat.le_trans hw.len ?_, hw.ok⟩
    rw [List.length_range]
    omega
theorem InWeb.erase {n m : Nat} {cs : List (Nat × Nat)} (h : InWeb n m cs) (k : Nat) : InWeb n m (cs.eraseIdx k) := ⟨Nat.le_trans (List.length_eraseIdx_le _ _) h.len, fun c hc => h.ok c (List.mem_of_mem_eraseIdx hc)⟩
theorem InWeb.insert {n m : Nat} {cs : List (Nat × Nat)} (h : InWeb n m cs) (k : Nat) (c : Nat × Nat) (hl : cs.length < m) (hc : c.1 < n ∧ c.2 < n ∧ c.1 ≠ c.2) : InWeb n m (cs.take k ++ [c] ++ cs.drop k) := by
  refine ⟨by simp only [List.length_append, List.length_take, List.length_drop, List.length_cons, List.length_nil]; omega, fun d hd => ?_⟩
  rcases List.mem_append.mp hd with hd | hd
  · rcases List.mem_append.mp hd with hd | hd
    · exact h.ok d (List.mem_of_mem_take hd)
    · rw [List.mem_singleton] at hd
      subst hd
      exact hc
  · exact h.ok d (List.mem_of_mem_drop hd)
theorem InWeb.set {n m : Nat} {cs : List (Nat × Nat)} (h : InWeb n m cs) (k : Nat) (c : Nat × Nat) (hc : c.1 < n ∧ c.2 < n ∧ c.1 ≠ c.2) : InWeb n m (cs.set k c) := by
  refine ⟨by rw [List.length_set]; exact h.len, fun d hd => ?_⟩
  rcases List.mem_or_eq_of_mem_set hd with hd | rfl
  · exact h.ok d hd
  · exact hc
theorem IsWeb.into {n : Nat} {cs : List (Nat × Nat)} (h : IsWeb n cs) : InWeb n 60 cs := ⟨h.len, h.ok⟩
theorem eraseIdx_map' {α β : Type} (f : α → β) : ∀ (xs : List α) (k : Nat), (xs.map f).eraseIdx k = (xs.eraseIdx k).map f
  | [], _ => rfl
  | _ :: _, 0 => rfl
  | x :: xs, k + 1 => by
    rw [List.map_cons, List.eraseIdx_cons_succ, List.eraseIdx_cons_succ, List.map_cons, eraseIdx_map' f xs k]
theorem step2 {α : Type} (a b : α) : stepD [a, b] none none (-1) = [b, a] := by
  have h1 : (Builtin.Slice.sliceAdjust none none (-1) 2) = (1, -1) := by decide
  have h2 : Builtin.Slice.slicePlaces 1 (-1) (-1) = 2 := by decide
  unfold stepD
  simp [h1, h2, List.range_succ]
theorem step_pr (c : Nat × Nat) (Q : T → Prop) : fSlS (pr c) none none (-1) Q = ((-1 : Int) ≠ 0 ∧ 2 ≤ 100000 ∧ Q (.sh (pr (c.2, c.1)))) := by
  show (_ ∧ _ ∧ Q (.sh (.tup _))) = _
  rw [step2]
  rfl
theorem zip_mem {α : Type} {cells : List α} {p : α × Nat} (h : p ∈ cells.zipIdx) : p.2 < cells.length := by
  obtain ⟨x, i⟩ := p
  have := (List.mem_zipIdx h).2.1
  simpa using this
theorem zip_mem2 {α : Type} {cells : List α} {p : α × Nat} {ps qs : List (α × Nat)} (h : cells.zipIdx = ps ++ p :: qs) : p.2 < cells.length := zip_mem (by rw [h]; simp)
def sp__law_web : SpD := fun ds Q => ∃ ns : List Int, ds = [.flst (ns.map .int)] ∧ ∀ (n : Nat) cs t, t.d = .tup [.int n, webD cs] → IsWeb n cs → n ≤ 7 → (n = 1 → cs = []) → Q t
abbrev n__law_web : List Str := ["_law_script", "_law_cells", "_law_n", "_law_lines", "_law_found", "_law_k", "_law_cell", "_law_more", "_law_at"]
def dt__law_web : DS := sSeq (sAsg (.n 1) (mS (mN (bSl (bV 0) boN (boS (bC (.int 40))))))) (sSeq (sAsg (.n 2) (mS (mN (bCall sp__law_draw (baC (bCall fSum (baC (bSl (bV 1) boN (boS (bC (.int 3)))) baN)) (baC (bCall fLen (baC (bV 1) baN)) (baC (bC (.int 1)) baN))))))) (sSeq (sAsg (.n 3) (mS (mN (bOp fIx (bLst (baC (bOp fAdd (bC (.int 2)) (bOp fMod (bOp fDiv (bV 2) (bC (.int 8))) (bC (.int 5)))) (baC (bOp fAdd (bC (.int 3)) (bOp fMod (bOp fDiv (bV 2) (bC (.int 8))) (bC (.int 3)))) (baC (bOp fAdd (bC (.int 1)) (bOp fMod (bOp fDiv (bV 2) (bC (.int 8))) (bC (.int 7)))) (baC (bC (.int 4)) baN))))) (bOp fMod (bV 2) (bC (.int 4))))))) (sSeq (sIf (qVal (bOp fEq (bV 3) (bC (.int 1)))) (sRet (mN (bTup (baC (bC (.int 1)) (baC (bLst baN) baN))))) sNext) (sSeq (sIf (qVal (bOp fEq (bOp fMod (bOp fDiv (bV 2) (bC (.int 64))) (bC (.int 2))) (bC (.int 0)))) (sRet (mN (bTup (baC (bV 3) (baC (bLc (biE (bV 1)) (.t [5, 6]) qYes (bCall sp__law_comparer (baC (bCall sp__law_draw (baC (bV 6) (baC (bV 5) (baC (bC (.int 2)) baN)))) (baC (bV 3) baN))) [5, 6]) baN))))) sNext) (sSeq (sAsg (.n 4) (mN (bCall sp__law_bricks (baC (bV 3) baN)))) (sSeq (sFor (biE (bV 1)) (.t [5, 6]) (sSeq (sAsg (.n 7) (mS (mN (bCall sp__law_draw (baC (bV 6) (baC (bV 5) (baC (bC (.int 3)) baN))))))) (sSeq (sAsg (.n 8) (mS (mA (bOp fMod (bOp fDiv (bV 7) (bC (.int 12))) (bOp fAdd (bCall fLen (baC (bV 4) baN)) (bC (.int 1))))))) (sIf (qAnd (qVal (bOp fLt (bOp fMod (bV 7) (bC (.int 12))) (bC (.int 2)))) (qVal (bOp fLt (bV 8) (bCall fLen (baC (bV 4) baN))))) (sPopAt 4 (mN (bV 8))) (sIf (qAnd (qVal (bOp fLt (bOp fMod (bV 7) (bC (.int 12))) (bC (.int 4)))) (qVal (bOp fLt (bCall fLen (baC (bV 4) baN)) (bC (.int 60))))) (sIns 4 (mN (bV 8)) (mN (bCall sp__law_comparer (baC (bOp fDiv (bV 7) (bC (.int 1000))) (baC (bV 3) baN))))) (sIf (qAnd (qVal (bOp fEq (bOp fMod (bV 7) (bC (.int 12))) (bC (.int 4)))) (qVal (bOp fLt (bV 8) (bCall fLen (baC (bV 4) baN))))) (sAsgG (gX 4 (mN (bV 8))) (mA (bSlS (bOp fIx (bV 4) (bV 8)) boN boN (bNeg (bC (.int 1)))))) sNext)))))) (sShare 4 (sSeq (sRet (mN (bTup (baC (bV 3) (baC (bV 4) baN))))) sNext))))))))

theorem l__law_web : ∀ ds Q, sp__law_web ds Q → ds.length = ["_law_script"].length := by rintro ds Q ⟨_, rfl, _⟩; rfl
theorem d__law_web : ∀ ds Q, sp__law_web ds Q → dt__law_web (ends0 Q) (env0 n__law_web.length ds) := by
  rintro ds Q ⟨ns, rfl, hQ⟩
  show dt__law_web (ends0 Q) [some (.sh (.flst (ns.map .int))), none, none, none, none, none, none, none, none]
  unfold dt__law_web
  walk_at "dd"
  rw [show cutD (ns.map D.int) none (some 40) = (ns.take 40).map D.int by rw [cut_map]; exact congrArg _ (cut_to ns 40)]
  have hcl : (ns.take 40).length ≤ 40 := by rw [List.length_take]; omega
  have hcD : D.cleans ((ns.take 40).map D.int) = true := clean_ints _
  generalize ns.take 40 = cells at hcl hcD ⊢
  rw [show cutD (cells.map D.int) none (some 3) = (cells.take 3).map D.int by rw [cut_map]; exact congrArg _ (cut_to cells 3)]
  refine ⟨_, rfl, _, cells.length, 1, by rw [List.length_map]; rfl, ⟨by omega, by omega, by decide, by decide⟩, ?_⟩
  have hn0 := draw_lo (cells.take 3).sum cells.length 1
  have hn1 := draw_hi (cells.take 3).sum cells.length 1
  generalize draw (cells.take 3).sum cells.length 1 = n at hn0 hn1 ⊢
  walk_at "dd"
  obtain ⟨L, hL, hL1, hL7⟩ : ∃ L : Nat, atI [D.int (2 + n / 8 % 5), D.int (3 + n / 8 % 3), D.int (1 + n / 8 % 7), D.int 4] (n % 4) = some (.int L) ∧ 1 ≤ L ∧ L ≤ 7 := by
    have h4 : n % 4 = 0 ∨ n % 4 = 1 ∨ n % 4 = 2 ∨ n % 4 = 3 := by omega
    rcases h4 with h | h | h | h <;> rw [h]
    · exact ⟨(2 + n / 8 % 5).toNat, by show some (D.int _) = _; congr 2; omega, by omega, by omega⟩
    · exact ⟨(3 + n / 8 % 3).toNat, by show some (D.int _) = _; congr 2; omega, by omega, by omega⟩
    · exact ⟨(1 + n / 8 % 7).toNat, by show some (D.int _) = _; congr 2; omega, by omega, by omega⟩
    · exact ⟨4, rfl, by omega, by omega⟩
  rw [hL]
  walk_at "dd"
  refine ⟨⟨by decide, by decide⟩, by decide, ⟨by decide, by decide⟩, by decide, ⟨by decide, by decide⟩, by decide, by decide, by decide, fun h1 => ⟨by decide, by decide, ?_⟩, fun h1 => ⟨⟨by decide, by decide⟩, by decide, fun _ => ?_, fun _ => ?_⟩⟩
  · have h1 := of_decide_eq_true h1
    have : L = 1 := by omega
    subst this
    exact hQ 1 [] _ rfl ⟨by decide, by decide, by decide, fun c m => by cases m⟩ (by decide) fun _ => rfl
  · have h1 := of_decide_eq_false h1
    unfold bLc
    walk_at "dd"
    refine ⟨by rw [enumF_len, List.length_map]; omega, _, cells.zipIdx, fun p => .tup [.int p.2, .int p.1], fun p => some (pr (cmpOf (draw p.1 p.2 2) L)), enumF_map _ _ 0, fun p hp => ?_, ?_⟩
    · have := zip_mem hp
      refine ⟨_, rfl, ?_⟩
      walk_at "dd"
      exact ⟨_, _, _, rfl, ⟨by omega, by omega, by decide, by decide⟩, _, L, rfl, draw_lo _ _ _, by omega, by omega, rfl⟩
    · rw [fm_some, show (cells.zipIdx.map fun p => pr (cmpOf (draw p.1 p.2 2) L)) = (cells.zipIdx.map fun p => cmpOf (draw p.1 p.2 2) L).map pr by rw [List.map_map]; rfl]
      refine ⟨by decide, hQ L _ _ rfl ⟨by omega, by omega, by rw [List.length_map, List.length_zipIdx]; omega, fun c hc => ?_⟩ hL7 fun h => absurd h (by omega)⟩
      obtain ⟨p, _, rfl⟩ := List.mem_map.mp hc
      exact cmpOf_ok (draw_lo _ _ _) (by omega)
  · have h1 := of_decide_eq_false h1
    refine ⟨L, rfl, by omega, hL7, fun cs0 hw0 => ?_⟩
    unfold sFor
    walk_at "dd"
    refine ⟨_, cells.zipIdx, fun p => .tup [.int p.2, .int p.1], fun ps env => ∃ cs x y z u, env = [some (.sh (.flst (ns.map .int))), some (.sh (.lst (cells.map .int))), some (.sh (.int n)), some (.sh (.int L)), some (.ow (cs.map pr)), x, y, z, u] ∧ InWeb L 60 cs, enumF_map _ _ 0, ⟨cs0, _, _, _, _, rfl, hw0⟩, ?_, ?_⟩
    · rintro ps p qs env' hx ⟨cs, x, y, z, u, rfl, hw⟩
      have := zip_mem2 hx
      walk_at "dd"
      refine ⟨_, _, _, rfl, ⟨by omega, by omega, by decide, by decide⟩, ?_⟩
      have m0 := draw_lo p.1 p.2 3
      have m1 := draw_hi p.1 p.2 3
      generalize draw p.1 p.2 3 = m at m0 m1 ⊢
      walk_at "dd"
      rw [List.length_map]
      have q0 := Int.emod_nonneg (m / 12) (show (cs.length : Int) + 1 ≠ 0 by omega)
      have q1 := Int.emod_lt_of_pos (m / 12) (show (0 : Int) < (cs.length : Int) + 1 by omega)
      have hl := hw.len
      generalize m / 12 % ((cs.length : Int) + 1) = at1 at q0 q1 ⊢
      refine ⟨⟨by decide, by decide⟩, by omega, by decide, _, fun _ => rfl, fun h => ?_, fun _ => ⟨by decide, _, fun _ => rfl, fun h => ⟨⟨by decide, by decide⟩, ?_⟩, fun _ => ⟨by decide, _, fun _ => rfl, fun h => ?_, fun _ => ⟨cs, _, _, _, _, rfl, hw⟩⟩⟩⟩
      · have h := of_decide_eq_true (Bool.and_eq_true _ _ ▸ h : _ ∧ _).2
        exact ⟨q0, h, by omega, cs.eraseIdx at1.toNat, some (.sh (.int p.2)), some (.sh (.int p.1)), some (.sh (.int m)), some (.sh (.int at1)), by rw [eraseIdx_map'], hw.erase _⟩
      · have h := of_decide_eq_true (Bool.and_eq_true _ _ ▸ h : _ ∧ _).2
        refine ⟨_, L, rfl, by omega, by omega, by omega, by omega, q0, by omega, cs.take at1.toNat ++ [cmpOf (m / 1000) L] ++ cs.drop at1.toNat, some (.sh (.int p.2)), some (.sh (.int p.1)), some (.sh (.int m)), some (.sh (.int at1)), ?_, hw.insert _ _ (by omega) (cmpOf_ok (by omega) (by omega))⟩
        rw [List.map_append, List.map_append, List.map_take, List.map_drop]
        rfl
      · have h := of_decide_eq_true (Bool.and_eq_true _ _ ▸ h : _ ∧ _).2
        obtain ⟨c, hc⟩ : ∃ c, cs[at1.toNat]? = some c := ⟨cs[at1.toNat]'(by omega), by simp [show at1.toNat < cs.length by omega]⟩
        refine ⟨pr c, atI_toNat q0 (by rw [List.getElem?_map, hc]; rfl), ?_⟩
        rw [step_pr]
        refine ⟨by decide, by decide, rfl, at1.toNat, ?_, cs.set at1.toNat (c.2, c.1), some (.sh (.int p.2)), some (.sh (.int p.1)), some (.sh (.int m)), some (.sh (.int at1)), ?_, hw.set _ _ ?_⟩
        · have := ixN_nat (n := cs.length) (j := at1.toNat) (by omega)
          rwa [Int.toNat_of_nonneg q0] at this
        · rw [List.map_set]
          rfl
        · obtain ⟨g1, g2, g3⟩ := hw.ok c (List.mem_of_getElem? hc)
          exact ⟨g2, g1, fun z => g3 z.symm⟩
    · rintro env' ⟨cs, x, y, z, u, rfl, hw⟩
      walk_at "dd"
      exact ⟨by decide, hQ L cs _ rfl ⟨by omega, by omega, hw.len, hw.ok⟩ hL7 fun h => absurd h (by omega)⟩
def sp__law_rows : SpD := fun ds Q => ∃ (ns : List Int) (n : Nat), ds = [.flst (ns.map .int), .int n] ∧ 1 ≤ n ∧ n ≤ 100 ∧ ∀ rows : List (List Int), rows.length ≤ 1000 → (∀ r ∈ rows, r.length = n) → rows ≠ [] → Q (.ow (rows.map intsD))
abbrev n__law_rows : List Str := ["_law_script", "_law_lines", "_law_cells", "_law_found", "_law_at", "_law_row", "_law_k", "_law_cell", "_law_n"]
def dt__law_rows : DS := sSeq (sAsg (.n 2) (mS (mN (bSl (bV 0) boN (boS (bC (.int 63))))))) (sSeq (sAsg (.n 3) (mN (bLst baN))) (sSeq (sFor (bi3 (baC (bC (.int 0)) (baC (bOp fAdd (bCall fLen (baC (bV 2) baN)) (bV 1)) (baC (bV 1) baN)))) (.n 4) (sSeq (sAsg (.n 5) (mN (bLst baN))) (sSeq (sFor (bi1 (baC (bV 1) baN)) (.n 6) (sSeq (sAsg (.n 7) (mS (mN (bIf (qVal (bOp fNe (bV 2) (bLst baN))) (bOp fIx (bV 2) (bOp fMod (bOp fAdd (bV 4) (bV 6)) (bCall fLen (baC (bV 2) baN)))) (bV 6))))) (sSeq (sAsg (.n 8) (mS (mN (bCall sp__law_draw (baC (bV 7) (baC (bOp fAdd (bV 4) (bV 6)) (baC (bC (.int 9)) baN))))))) (sApp 5 (mN (bOp fIx (bLst (baC (bOp fMod (bV 7) (bOp fPow (bC (.int 10)) (bC (.int 60)))) (baC (bOp fSub (bC (.int 0)) (bOp fMod (bV 7) (bOp fPow (bC (.int 10)) (bC (.int 60))))) (baC (bOp fMod (bV 8) (bC (.int 4))) (baC (bOp fSub (bOp fMod (bV 7) (bC (.int 1000))) (bC (.int 500))) baN))))) (bOp fMod (bOp fDiv (bV 8) (bC (.int 8))) (bC (.int 4))))))))) (sShare 5 (sSeq (sApp 3 (mN (bV 5))) sNext))))) (sRet (mV 3))))

theorem l__law_rows : ∀ ds Q, sp__law_rows ds Q → ds.length = ["_law_script", "_law_lines"].length := by rintro ds Q ⟨_, _, rfl, _⟩; rfl
theorem d__law_rows : ∀ ds Q, sp__law_rows ds Q → dt__law_rows (ends0 Q) (env0 n__law_rows.length ds) := by
  rintro ds Q ⟨ns, n, rfl, hn1, hn2, hQ⟩
  show dt__law_rows (ends0 Q) [some (.sh (.flst (ns.map .int))), some (.sh (.int n)), none, none, none, none, none, none, none]
  unfold dt__law_rows
  walk_at "dd"
  rw [show cutD (ns.map D.int) none (some 63) = (ns.take 63).map D.int by rw [cut_map]; exact congrArg _ (cut_to ns 63)]
  have hcl : (ns.take 63).length ≤ 63 := by rw [List.length_take]; omega
  have hcD : D.cleans ((ns.take 63).map D.int) = true := clean_ints _
  generalize ns.take 63 = cells at hcl hcD ⊢
  unfold sFor
  walk_at "dd"
  obtain ⟨k, hk, hk2, hk3⟩ := RgC_pos (a := 0) (b := ((cells.map D.int).length : Int) + n) (c := n) (by decide) (by decide) (by rw [List.length_map]; omega) (by rw [List.length_map]; omega) (by omega) (by omega)
  rw [List.length_map] at hk hk3
  have hk1 : 1 ≤ k := by
    have h := hk.2.2.2
    unfold Builtin.Range.rangeSize at h
    rw [if_pos (by omega), if_pos (by omega)] at h
    have h1 : 0 ≤ ((cells.length : Int) + (n : Int) - 0 - 1) / (n : Int) := Int.ediv_nonneg (by omega) (by omega)
    omega
  have hk8 : k ≤ 200 := by
    by_cases h : k = 0
    · omega
    · have h1 := hk3 (k - 1) (by omega)
      have h2 : ((k - 1 : Nat) : Int) * 1 ≤ ((k - 1 : Nat) : Int) * n := Int.mul_le_mul_of_nonneg_left (by omega) (by omega)
      omega
  rw [List.length_map]
  refine ⟨by decide, k, hk, _, ups 0 n k, D.int, fun ps env => ∃ rows x y z u v, env = [some (.sh (.flst (ns.map .int))), some (.sh (.int n)), some (.sh (.lst (cells.map .int))), some (.ow (rows.map intsD)), x, y, z, u, v] ∧ rows.length = ps.length ∧ ∀ r ∈ rows, r.length = n, rfl, ⟨[], _, _, _, _, _, rfl, rfl, fun r m => by cases m⟩, ?_, ?_⟩
  · rintro ps at1 qs env' hx ⟨rows, x, y, z, u, v, rfl, hl, hr⟩
    have hps : ps.length < 200 := by
      have := congrArg List.length hx
      rw [ups_len, List.length_append, List.length_cons] at this
      omega
    have hat : 0 ≤ at1 ∧ at1 ≤ 200 := by
      have : at1 ∈ ups 0 n k := by rw [hx]; simp
      obtain ⟨j, hj, rfl⟩ := List.mem_map.mp this
      have h1 := hk3 j (by simpa using hj)
      have h2 : 0 ≤ (j : Int) * n := Int.mul_nonneg (by omega) (by omega)
      omega
    walk_at "dd"
    refine ⟨by decide, by omega, by omega, _, List.range n, _, fun ps env => ∃ row z u v, env = [some (.sh (.flst (ns.map .int))), some (.sh (.int n)), some (.sh (.lst (cells.map .int))), some (.ow (rows.map intsD)), some (.sh (.int at1)), some (.ow (row.map .int)), z, u, v] ∧ row.length = ps.length, by rw [Int.toNat_natCast]; exact ups_range n, ⟨[], _, _, _, rfl, rfl⟩, ?_, ?_⟩
    · rintro ps j qs env' hx ⟨row, z, u, v, rfl, hl⟩
      have hj : j < n := by
        have : j ∈ List.range n := by rw [hx]; simp
        simpa using this
      walk_at "dd"
      obtain ⟨c, hc1, hc2⟩ : ∃ c : Int, (cells ≠ [] → atI (cells.map D.int) ((at1 + (j : Nat)) % (cells.length : Int)) = some (.int c)) ∧ (cells = [] → c = (j : Nat)) := by
        by_cases h : cells = []
        · exact ⟨(j : Nat), fun g => absurd h g, fun _ => rfl⟩
        · have hp := List.length_pos_iff.mpr h
          have m0 := Int.emod_nonneg (at1 + (j : Nat)) (show (cells.length : Int) ≠ 0 by omega)
          have m1 := Int.emod_lt_of_pos (at1 + (j : Nat)) (show (0 : Int) < (cells.length : Int) by omega)
          exact ⟨cells.getD ((at1 + (j : Nat)) % (cells.length : Int)).toNat 0, fun _ => atI_toNat m0 (by rw [List.getElem?_map, List.getD_eq_getElem?_getD, List.getElem?_eq_getElem (by omega)]; rfl), fun g => absurd g h⟩
      have he : deq (.lst (cells.map D.int)) (.lst []) = decide (cells = []) := deq_ints cells []
      refine ⟨by decide, fine_ints cells 8, rfl, .sh (.int c), fun h => ?_, fun h => ?_, ?_⟩
      · rw [he, Bool.not_eq_true', decide_eq_false_iff_not] at h
        rw [List.length_map]
        have hp := List.length_pos_iff.mpr h
        exact ⟨by omega, _, hc1 h, rfl⟩
      · rw [he, Bool.not_eq_false', decide_eq_true_iff] at h
        rw [hc2 h]
      · walk_at "dd"
        refine ⟨_, _, _, rfl, ⟨by omega, by omega, by decide, by decide⟩, ?_⟩
        have m0 := draw_lo c (at1 + (j : Nat)) 9
        generalize draw c (at1 + (j : Nat)) 9 = m at m0 ⊢
        walk_at "dd"
        obtain ⟨e, he2⟩ : ∃ e : Int, atI [D.int (c % 10 ^ Int.toNat 60), D.int (0 - c % 10 ^ Int.toNat 60), D.int (m % 4), D.int (c % 1000 - 500)] (m / 8 % 4) = some (.int e) := by
          have h4 : m / 8 % 4 = 0 ∨ m / 8 % 4 = 1 ∨ m / 8 % 4 = 2 ∨ m / 8 % 4 = 3 := by omega
          rcases h4 with h | h | h | h <;> rw [h] <;> exact ⟨_, rfl⟩
        refine ⟨⟨by decide, by decide, by decide⟩, by decide, ⟨by decide, by decide, by decide⟩, by decide, by decide, by decide, by decide, ⟨by decide, by decide⟩, by decide, _, he2, ?_, row ++ [e], some (.sh (.int j)), some (.sh (.int c)), some (.sh (.int m)), ?_, ?_⟩
        · have : ps.length < 100 := by
            have := congrArg List.length hx
            rw [List.length_range, List.length_append, List.length_cons] at this
            omega
          rw [List.length_map]
          omega
        · rw [List.map_append]; rfl
        · rw [List.length_append, List.length_append, hl]; rfl
    · rintro env' ⟨row, z, u, v, rfl, hl2⟩
      walk_at "dd"
      refine ⟨by rw [List.length_map]; omega, rows ++ [row], _, _, _, _, _, by rw [List.map_append]; rfl, by rw [List.length_append, List.length_append, hl]; rfl, fun r hr2 => ?_⟩
      rcases List.mem_append.mp hr2 with h | h
      · exact hr r h
      · rw [List.mem_singleton] at h
        subst h
        rw [hl2, List.length_range]
  · rintro env' ⟨rows, x, y, z, u, v, rfl, hl, hr⟩
    walk_at "dd"
    exact hQ rows (by rw [hl, ups_len]; omega) hr fun z => by rw [z, ups_len] at hl; simp at hl; omega
end W

/-! PK: what a web does with rows of noughts and ones (looking.py). -/
namespace W
open PySem L2
local macro_rules | `(tactic| walk_at "dd") => `(tactic| simp only [sRaise, sRaiseP, sCallX, sSetX, sTry, sTry2, sSeq, sAsg, sAsgG, sDrop, sRet, sRetN, sIf, sNext, sNever, sCont, sApp, sAppT, sIns, sPopAt, sShare, sAppAt, gT2, gX, mS, mN, mA, mT2, sPar3, bLz, qCh3, sPar, sExt, bLr1, bLr2, mPop, mPopAt, mIf, bCount, noIs_n, noIs_c, noI_i, noI_web, mkLst_d, mkTup_d, put_pr, fIx_pr, intsD, webD, mH, half_ows, half_ow, half_sh, half_lst1, half_lst1s, clean_lst1, sets_n, sets_c, List.map_cons, List.map_nil, bOp, bC_eq, bV0, bV1, mV0, mV1, fAdd_i, fAdd_l, fAdd_s, fAdd_t, fMul_i, fMul_l, fI0_eq, fI_eq, fIx_l, fIx_t, fIx_s, fEq_eq, fNe_eq, asB_eq, asI_eq, fLen_l, fLen_f, fLen_t, fLen_s, fList_l, fList_f, fList_t, fTuple_l, fTuple_t, fMax2_i, fMin2_i, fSl_l, fSl_f, fSl_s, fSlS_l, fSlS_t, isN_int, isN_str, isN_lst, isN_tup, isN_bl, isN_non, put_n, put_t2, put_p2, put_t3, d_sh, d_ow, d_tp, d_ows, ds_n, ds_c, hide_n, hide_cons, hideO_sh, hideO_ow, hideO_ows, hideO_tp, hideO_n, wipeE_n, wipeE_c, mkTup_0, mkTup_1, mkTup_2, mkTup_3, mkLst_0, mkLst_1, mkLst_2, mkLst_3, mkLst_4, isOw_ow, isOw_ows, shO_some, shO_none, clean_sh, clean_ow, clean_i, clean_b, clean_s, clean_n, clean_t, cleans_n, cleans_c, fine_i, fine_b, fine_n, deq_i, deq_b, deq_s, n0, n1, List.set_cons_zero, List.set_cons_succ, List.set_nil, Option.some.injEq, exists_eq_left', bCall, baC, baN, qVal, qAnd, qOr, qNot, qYes, bAnd, bOr, bNot, bCh, bIf, bTup, bLst, bSl, bSlS, boN, boS, bRev, bNeg, bIsi, biL, biT, bi1, bi2, bi3, biE, biZ, List.length_cons, List.length_nil, true_and, and_true, Bool.and_true, Bool.true_and, Bool.not_not, reduceCtorEq, false_implies, implies_true, true_implies, forall_const, Bool.not_true, Bool.not_false, Bool.false_or, Bool.true_or, Bool.or_false, Bool.or_true, Bool.and_false, Bool.false_and, tyN_i, isT_i_int, isT_i_bool, isT_i_list, isT_i_tuple, isT_i_str, tyN_b, isT_b_int, isT_b_bool, isT_b_list, isT_b_tuple, isT_b_str, tyN_n, isT_n_int, isT_n_bool, isT_n_list, isT_n_tuple, isT_n_str, tyN_s, isT_s_int, isT_s_bool, isT_s_list, isT_s_tuple, isT_s_str, tyN_l, isT_l_int, isT_l_bool, isT_l_list, isT_l_tuple, isT_l_str, tyN_t, isT_t_int, isT_t_bool, isT_t_list, isT_t_tuple, isT_t_str, tyN_f, isT_f_int, isT_f_bool, isT_f_list, isT_f_tuple, isT_f_str, fInt_i, fInt_b, bLenSet, bMeet, sSubA, tyN_d, isT_d_int, isT_d_bool, isT_d_list, isT_d_tuple, isT_d_str, bLines, bLaid, bPast, bnS_bn, bMeth0, isBn_bn, bMake, mMeth, bnAt_bn, dtAt_dt, sLaidApp, sPastApp, sDPutT, bDNew, sIfN, d_bn, d_dt, hideO_bn, hideO_dt, shO_bn, fSl_t, d_md, d_ol, d_ml, hideO_md, hideO_ol, hideO_ml2, clean_dt, clean_exc, mdS_md, mdN_md, mdN_mdn, bMLines, bMWeb, mOp, mIsi, mtVal, mtNot, mtOr, sIfT, mMeth0, sOlApp, mF])
/-! ### all rows of noughts and ones -/
def bareL : Nat → List (List Int)
  | 0 => [[]]
  | n + 1 => (bareL n).map (· ++ [0]) ++ (bareL n).map (· ++ [1])
theorem bareL_len : ∀ n, (bareL n).length = 2 ^ n
  | 0 => rfl
  | n + 1 => by rw [bareL, List.length_append, List.length_map, List.length_map, bareL_len n, Nat.pow_succ]; omega
theorem bareL_row : ∀ n, ∀ r ∈ bareL n, r.length = n ∧ ∀ x ∈ r, x = 0 ∨ x = 1
  | 0, r, m => by
    rw [bareL, List.mem_singleton] at m
    subst m
    exact ⟨rfl, fun x m => by cases m⟩
  | n + 1, r, m => by
    rw [bareL] at m
    have key : ∀ b : Int, b = 0 ∨ b = 1 → r ∈ (bareL n).map (· ++ [b]) → r.length = n + 1 ∧ ∀ x ∈ r, x = 0 ∨ x = 1 := fun b hb m => by
      obtain ⟨q, hq, rfl⟩ := List.mem_map.mp m
      obtain ⟨h1, h2⟩ := bareL_row n q hq
      refine ⟨by simp [h1], fun x hx => ?_⟩
      rcases List.mem_append.mp hx with hx | hx
      · exact h2 x hx
      · rw [List.mem_singleton] at hx
        rw [hx]
        exact hb
    rcases List.mem_append.mp m with m | m
    · exact key 0 (.inl rfl) m
    · exact key 1 (.inr rfl) m
theorem bareL_all : ∀ (n : Nat) (r : List Int), r.length = n → (∀ x ∈ r, x = 0 ∨ x = 1) → r ∈ bareL n
  | 0, r, h, _ => by
    rw [List.length_eq_zero_iff] at h
    subst h
    exact List.mem_singleton.mpr rfl
  | n + 1, r, h, k => by
    obtain ⟨q, b, rfl⟩ : ∃ q b, r = q ++ [b] := by
      refine ⟨r.dropLast, r.getLast (by intro z; subst z; cases h), ?_⟩
      rw [List.dropLast_concat_getLast]
    have hq := bareL_all n q (by simpa using h) fun x hx => k x (List.mem_append_left _ hx)
    rw [bareL]
    rcases k b (List.mem_append_right _ (by simp)) with rfl | rfl
    · exact List.mem_append_left _ (List.mem_map.mpr ⟨q, hq, rfl⟩)
    · exact List.mem_append_right _ (List.mem_map.mpr ⟨q, hq, rfl⟩)
def sp_bare_rows : SpD := fun ds Q => ∃ n : Nat, ds = [.int n] ∧ n ≤ 10 ∧ Q (.sh (.lst ((bareL n).map intsD)))
abbrev n_bare_rows : List Str := ["lines", "found", "turn", "row"]
def dt_bare_rows : DS := sSeq (sAsg (.n 1) (mS (mN (bLst (baC (bLst baN) baN))))) (sSeq (sFor (bi1 (baC (bV 0) baN)) (.n 2) (sAsg (.n 1) (mS (mN (bOp fAdd (bLc (biL (bV 1)) (.n 3) qYes (bOp fAdd (bV 3) (bLst (baC (bC (.int 0)) baN))) [3]) (bLc (biL (bV 1)) (.n 3) qYes (bOp fAdd (bV 3) (bLst (baC (bC (.int 1)) baN))) [3])))))) (sRet (mV 1)))

theorem l_bare_rows : ∀ ds Q, sp_bare_rows ds Q → ds.length = ["lines"].length := by rintro ds Q ⟨_, rfl, _⟩; rfl
theorem d_bare_rows : ∀ ds Q, sp_bare_rows ds Q → dt_bare_rows (ends0 Q) (env0 n_bare_rows.length ds) := by
  rintro ds Q ⟨n, rfl, hn, hQ⟩
  show dt_bare_rows (ends0 Q) [some (.sh (.int n)), none, none, none]
  unfold dt_bare_rows
  walk_at "dd"
  unfold sFor
  walk_at "dd"
  refine ⟨by decide, by decide, by omega, by omega, _, List.range n, _, fun ps env => ∃ x, env = [some (.sh (.int n)), some (.sh (.lst ((bareL ps.length).map intsD))), x, none], by rw [Int.toNat_natCast]; exact ups_range n, ⟨_, rfl⟩, ?_, ?_⟩
  · rintro ps j qs env' hx ⟨x, rfl⟩
    have hj : ps.length < n := by
      have := congrArg List.length hx
      rw [List.length_range, List.length_append, List.length_cons] at this
      omega
    have hp := bareL_len ps.length
    have hp2 : 2 ^ ps.length ≤ 2 ^ 9 := Nat.pow_le_pow_right (by decide) (by omega)
    have e : bareL (ps ++ [j]).length = (bareL ps.length).map (· ++ [0]) ++ (bareL ps.length).map (· ++ [1]) := by rw [List.length_append]; rfl
    dsimp only
    rw [e]
    have hr := fun r m => (bareL_row ps.length r m).1
    generalize bareL ps.length = B at hp hr ⊢
    unfold bLc
    walk_at "dd"
    refine ⟨by rw [List.length_map]; omega, _, B, intsD, fun r => some (intsD (r ++ [0])), rfl, fun r m => ?_, ?_⟩
    · walk_at "dd"
      have := hr r m
      refine ⟨by decide, by rw [List.length_map]; omega, ?_⟩
      rw [List.map_append]
      rfl
    refine ⟨by rw [List.length_map]; omega, _, B, intsD, fun r => some (intsD (r ++ [1])), rfl, fun r m => ?_, ?_⟩
    · walk_at "dd"
      have := hr r m
      refine ⟨by decide, by rw [List.length_map]; omega, ?_⟩
      rw [List.map_append]
      rfl
    rw [fm_some, fm_some]
    walk_at "dd"
    refine ⟨by rw [List.length_map, List.length_map]; omega, some (.sh (.int j)), ?_⟩
    rw [List.map_append, List.map_map, List.map_map]
    rfl
  · rintro env' ⟨x, rfl⟩
    walk_at "dd"
    rw [List.length_range]
    exact hQ
/-! ### rows in order -/
def rising : List Int → Bool
  | a :: b :: r => decide (a ≤ b) && rising (b :: r)
  | _ => true
theorem rising_zip : ∀ row : List Int, ((row.zip (row.drop 1)).map fun p => decide (p.1 ≤ p.2)).all id = rising row
  | [] => rfl
  | [_] => rfl
  | a :: b :: r => by
    have := rising_zip (b :: r)
    simp only [List.drop_succ_cons, List.drop_zero] at this ⊢
    rw [List.zip_cons_cons, List.map_cons, List.all_cons, this]
    rfl
def sp_is_rising : SpD := fun ds Q => ∃ (row : List Int) (d : D), ds = [d] ∧ (d = intsD row ∨ (d = .tup (row.map .int) ∧ 1 ≤ row.length)) ∧ row.length ≤ 1000 ∧ Q (.sh (.bl (rising row)))
abbrev n_is_rising : List Str := ["row", "one", "other"]
def dt_is_rising : DS := sRet (mN (bCall fAll (baC (bLc (biZ (baC (bV 0) (baC (bSl (bV 0) (boS (bC (.int 1))) boN) baN))) (.t [1, 2]) qYes (bOp fLe (bV 1) (bV 2)) [1, 2]) baN)))

theorem l_is_rising : ∀ ds Q, sp_is_rising ds Q → ds.length = ["row"].length := by rintro ds Q ⟨_, _, rfl, _⟩; rfl
theorem d_is_rising : ∀ ds Q, sp_is_rising ds Q → dt_is_rising (ends0 Q) (env0 n_is_rising.length ds) := by
  rintro ds Q ⟨row, d, rfl, hd, hn, hQ⟩
  rcases hd with rfl | ⟨rfl, h1⟩
  · show dt_is_rising (ends0 Q) [some (.sh (.lst (row.map .int))), none, none]
    unfold dt_is_rising
    walk_at "dd"
    unfold bLc
    walk_at "dd"
    rw [show cutD (row.map D.int) (some 1) none = (row.drop 1).map D.int by rw [cut_map]; exact congrArg _ (cut_from row 1), zip_map]
    refine ⟨by rw [List.length_map, List.length_zip]; omega, _, row.zip (row.drop 1), fun p => .tup [.int p.1, .int p.2], fun p => some (.bl (decide (p.1 ≤ p.2))), rfl, fun p _ => ?_, ?_⟩
    · walk_at "dd"
    · rw [fm_some]
      refine ⟨(row.zip (row.drop 1)).map fun p => decide (p.1 ≤ p.2), by rw [List.map_map]; rfl, ?_⟩
      rw [rising_zip]
      exact hQ
  · show dt_is_rising (ends0 Q) [some (.sh (.tup (row.map .int))), none, none]
    unfold dt_is_rising
    walk_at "dd"
    unfold bLc
    walk_at "dd"
    refine ⟨fun z => by rw [List.length_map, show (1 : Int) = ((1 : Nat) : Int) from rfl, HT.sIx_nat] at z; omega, ?_⟩
    rw [show cutD (row.map D.int) (some 1) none = (row.drop 1).map D.int by rw [cut_map]; exact congrArg _ (cut_from row 1), zip_map]
    refine ⟨by rw [List.length_map, List.length_zip]; omega, _, row.zip (row.drop 1), fun p => .tup [.int p.1, .int p.2], fun p => some (.bl (decide (p.1 ≤ p.2))), rfl, fun p _ => ?_, ?_⟩
    · walk_at "dd"
    · rw [fm_some]
      refine ⟨(row.zip (row.drop 1)).map fun p => decide (p.1 ≤ p.2), by rw [List.map_map]; rfl, ?_⟩
      rw [rising_zip]
      exact hQ
/-! ### unsorted -/
theorem find_at {α : Type} {p : α → Bool} {xs ps qs : List α} {r : α} (hx : xs = ps ++ r :: qs) (h : ∀ q ∈ ps, p q = false) (hr : p r = true) : xs.find? p = some r := by
  rw [hx, List.find?_append, List.find?_eq_none.mpr (fun q m => by simp [h q m]), List.find?_cons_of_pos hr]
  rfl
def unsortedL (n : Nat) (cs : List (Nat × Nat)) : Option (List Int) := (bareL n).find? fun r => !rising (gone cs r)
def optD : Option (List Int) → D
  | none => .non
  | some r => intsD r
def sp_unsorted : SpD := fun ds Q => ∃ (n : Nat) (cs : List (Nat × Nat)), ds = [.int n, webD cs] ∧ IsWeb n cs ∧ Q (.sh (optD (unsortedL n cs)))
abbrev n_unsorted : List Str := ["lines", "comparers", "row"]
def dt_unsorted : DS := sSeq (sDrop (mN (bCall sp_need_web (baC (bV 0) (baC (bV 1) baN))))) (sSeq (sFor (biL (bCall sp_bare_rows (baC (bV 0) baN))) (.n 2) (sIf (qNot (qVal (bCall sp_is_rising (baC (bCall sp_gone (baC (bV 1) (baC (bV 2) baN))) baN)))) (sRet (mV 2)) sNext)) (sRet (mN (bC .non))))

theorem l_unsorted : ∀ ds Q, sp_unsorted ds Q → ds.length = ["lines", "comparers"].length := by rintro ds Q ⟨_, _, rfl, _⟩; rfl
theorem d_unsorted : ∀ ds Q, sp_unsorted ds Q → dt_unsorted (ends0 Q) (env0 n_unsorted.length ds) := by
  rintro ds Q ⟨n, cs, rfl, hw, hQ⟩
  show dt_unsorted (ends0 Q) [some (.sh (.int n)), some (.sh (.lst (cs.map pr))), none]
  unfold dt_unsorted
  walk_at "dd"
  refine ⟨n, cs, rfl, hw, ?_⟩
  unfold sFor
  walk_at "dd"
  refine ⟨n, rfl, hw.hi, ?_⟩
  walk_at "dd"
  refine ⟨_, bareL n, intsD, fun ps env => ∃ x, env = [some (.sh (.int n)), some (.sh (.lst (cs.map pr))), x] ∧ ∀ r ∈ ps, rising (gone cs r) = true, rfl, ⟨_, rfl, fun r m => by cases m⟩, ?_, ?_⟩
  · rintro ps r qs env' hx ⟨x, rfl, hp⟩
    have hl := (bareL_row n r (by rw [hx]; simp)).1
    have hn := hw.hi
    walk_at "dd"
    refine ⟨cs, r, rfl, fun c m => by rw [hl]; exact ⟨(hw.ok c m).1, (hw.ok c m).2.1⟩, gone cs r, _, rfl, .inl rfl, by rw [gone_len]; omega, ?_⟩
    walk_at "dd"
    refine ⟨fun h => ?_, fun h => ⟨_, rfl, fun q m => ?_⟩⟩
    · have e : unsortedL n cs = some r := by
        unfold unsortedL
        exact find_at hx (fun q m => by simp [hp q m]) h
      rw [e] at hQ
      exact hQ
    · rcases List.mem_append.mp m with m | m
      · exact hp q m
      · rw [List.mem_singleton] at m
        subst m
        simpa using h
  · rintro env' ⟨x, rfl, hp⟩
    have e : unsortedL n cs = none := by
      unfold unsortedL
      exact List.find?_eq_none.mpr fun q m => by simp [hp q m]
    rw [e] at hQ
    try walk_at "dd"
    exact hQ
/-! ### differing -/
def differL (n : Nat) (cs es : List (Nat × Nat)) : Option (List Int) := (bareL n).find? fun r => !decide (gone cs r = gone es r)
def sp_differing : SpD := fun ds Q => ∃ (n : Nat) (cs es : List (Nat × Nat)), ds = [.int n, webD cs, webD es] ∧ IsWeb n cs ∧ IsWeb n es ∧ Q (.sh (optD (differL n cs es)))
abbrev n_differing : List Str := ["lines", "one", "other", "row"]
def dt_differing : DS := sSeq (sDrop (mN (bCall sp_need_web (baC (bV 0) (baC (bV 1) baN))))) (sSeq (sDrop (mN (bCall sp_need_web (baC (bV 0) (baC (bV 2) baN))))) (sSeq (sFor (biL (bCall sp_bare_rows (baC (bV 0) baN))) (.n 3) (sIf (qVal (bOp fNe (bCall sp_gone (baC (bV 1) (baC (bV 3) baN))) (bCall sp_gone (baC (bV 2) (baC (bV 3) baN))))) (sRet (mV 3)) sNext)) (sRet (mN (bC .non)))))

theorem l_differing : ∀ ds Q, sp_differing ds Q → ds.length = ["lines", "one", "other"].length := by rintro ds Q ⟨_, _, _, rfl, _⟩; rfl
theorem d_differing : ∀ ds Q, sp_differing ds Q → dt_differing (ends0 Q) (env0 n_differing.length ds) := by
  rintro ds Q ⟨n, cs, es, rfl, hw, hw2, hQ⟩
  show dt_differing (ends0 Q) [some (.sh (.int n)), some (.sh (.lst (cs.map pr))), some (.sh (.lst (es.map pr))), none]
  unfold dt_differing
  walk_at "dd"
  refine ⟨n, cs, rfl, hw, n, es, rfl, hw2, ?_⟩
  unfold sFor
  walk_at "dd"
  refine ⟨n, rfl, hw.hi, ?_⟩
  walk_at "dd"
  refine ⟨_, bareL n, intsD, fun ps env => ∃ x, env = [some (.sh (.int n)), some (.sh (.lst (cs.map pr))), some (.sh (.lst (es.map pr))), x] ∧ ∀ r ∈ ps, gone cs r = gone es r, rfl, ⟨_, rfl, fun r m => by cases m⟩, ?_, ?_⟩
  · rintro ps r qs env' hx ⟨x, rfl, hp⟩
    have hl := (bareL_row n r (by rw [hx]; simp)).1
    have hn := hw.hi
    walk_at "dd"
    refine ⟨cs, r, rfl, fun c m => by rw [hl]; exact ⟨(hw.ok c m).1, (hw.ok c m).2.1⟩, es, r, rfl, fun c m => by rw [hl]; exact ⟨(hw2.ok c m).1, (hw2.ok c m).2.1⟩, fine_ints _ 8, fine_ints _ 8, ?_⟩
    rw [show deq (owI (gone cs r)).d (owI (gone es r)).d = decide (gone cs r = gone es r) from deq_ints _ _]
    refine ⟨fun h => ?_, fun h => ⟨_, rfl, fun q m => ?_⟩⟩
    · have e : differL n cs es = some r := by
        unfold differL
        exact find_at hx (fun q m => by simp [hp q m]) h
      rw [e] at hQ
      exact hQ
    · rcases List.mem_append.mp m with m | m
      · exact hp q m
      · rw [List.mem_singleton] at m
        subst m
        simpa using h
  · rintro env' ⟨x, rfl, hp⟩
    have e : differL n cs es = none := by
      unfold differL
      exact List.find?_eq_none.mpr fun q m => by simp [hp q m]
    rw [e] at hQ
    try walk_at "dd"
    exact hQ
/-! ### stirred -/
def hit (r : List Int) (c : Nat × Nat) : Bool := decide (r.getD c.2 0 < r.getD c.1 0)
def hitAt (cs : List (Nat × Nat)) (i : Nat) (r : List Int) : Bool := hit (gone (cs.take i) r) (cs.getD i (0, 0))
def stirAt (n : Nat) (cs : List (Nat × Nat)) (i : Nat) : Option (List Int) := (bareL n).find? (hitAt cs i)
def stirL (n : Nat) (cs : List (Nat × Nat)) : List (Option (List Int)) := (List.range cs.length).map (stirAt n cs)
theorem isN_opt {x : Option (List Int)} {Q : T → Prop} : fIsN false (optD x) .non Q = Q (.sh (.bl x.isNone)) := by cases x <;> rfl
theorem isNn_opt {x : Option (List Int)} {Q : T → Prop} : fIsN true (optD x) .non Q = Q (.sh (.bl x.isSome)) := by cases x <;> rfl
theorem rep_flat {α : Type} (a : α) : ∀ k : Nat, (List.replicate k [a]).flatten = (List.range k).map fun _ => a
  | 0 => rfl
  | k + 1 => by rw [List.replicate_succ', List.flatten_append, rep_flat a k, List.range_succ, List.map_append]; rfl
theorem set_range {α : Type} (f : Nat → α) (m j : Nat) (y : α) : ((List.range m).map f).set j y = (List.range m).map fun i => if i = j then y else f i := by
  apply List.ext_getElem?
  intro k
  rw [List.getElem?_set, List.getElem?_map, List.getElem?_map]
  by_cases hk : k < m
  · rw [List.getElem?_range hk]
    by_cases h : j = k
    · subst h
      simp [hk]
    · rw [if_neg h]
      simp [show k ≠ j from fun z => h z.symm]
  · rw [List.getElem?_eq_none (by simp; omega)]
    by_cases h : j = k
    · subst h
      simp [hk]
    · rw [if_neg h]
      rfl
def midAt (cs : List (Nat × Nat)) (ps : List (List Int)) (row : List Int) (j i : Nat) : Option (List Int) := if i < j then (ps ++ [row]).find? (hitAt cs i) else ps.find? (hitAt cs i)
theorem mid_step {cs : List (Nat × Nat)} {ps : List (List Int)} {row : List Int} {j : Nat} : ∀ i, midAt cs ps row (j + 1) i = if i = j then (ps.find? (hitAt cs j)).or (if hitAt cs j row then some row else none) else midAt cs ps row j i := fun i => by
  unfold midAt
  by_cases h : i = j
  · subst h
    rw [if_pos (Nat.lt_succ_self _), if_pos rfl, List.find?_append]
    congr 1
    cases e : hitAt cs i row <;> simp [e]
  · rw [if_neg h]
    by_cases h2 : i < j
    · rw [if_pos (by omega), if_pos h2]
    · rw [if_neg (by omega), if_neg h2]
def sp_stirred : SpD := fun ds Q => ∃ (n : Nat) (cs : List (Nat × Nat)), ds = [.int n, webD cs] ∧ IsWeb n cs ∧ Q (.ow ((stirL n cs).map optD))
abbrev n_stirred : List Str := ["lines", "comparers", "found", "row", "now", "place", "comparer"]
def dt_stirred : DS := sSeq (sAsg (.n 2) (mN (bOp fMul (bLst (baC (bC .non) baN)) (bCall fLen (baC (bV 1) baN))))) (sSeq (sFor (biL (bCall sp_bare_rows (baC (bV 0) baN))) (.n 3) (sSeq (sAsg (.n 4) (mS (mN (bV 3)))) (sFor (biE (bV 1)) (.t [5, 6]) (sCut (sIf (qAnd (qVal (bOp fGt (bOp fIx (bV 4) (bOp fIx (bV 6) (bC (.int 0)))) (bOp fIx (bV 4) (bOp fIx (bV 6) (bC (.int 1)))))) (qVal (bOp (fIsN false) (bOp fIx (bV 2) (bV 5)) (bC .non)))) (sAsgG (gX 2 (mN (bV 5))) (mN (bV 3))) sNext) (sAsg (.n 4) (mS (mN (bCall sp_passed (baC (bV 4) (baC (bV 6) baN)))))))))) (sRet (mV 2)))

theorem l_stirred : ∀ ds Q, sp_stirred ds Q → ds.length = ["lines", "comparers"].length := by rintro ds Q ⟨_, _, rfl, _⟩; rfl
theorem d_stirred : ∀ ds Q, sp_stirred ds Q → dt_stirred (ends0 Q) (env0 n_stirred.length ds) := by
  rintro ds Q ⟨n, cs, rfl, hw, hQ⟩
  show dt_stirred (ends0 Q) [some (.sh (.int n)), some (.sh (.lst (cs.map pr))), none, none, none, none, none]
  have hm := hw.len
  unfold dt_stirred
  walk_at "dd"
  unfold sFor
  walk_at "dd"
  rw [List.length_map]
  refine ⟨by decide, by omega, by omega, by rw [Int.toNat_natCast]; simp; omega, n, rfl, hw.hi, ?_⟩
  walk_at "dd"
  rw [Int.toNat_natCast, rep_flat]
  refine ⟨_, bareL n, intsD, fun ps env => ∃ x y z u, env = [some (.sh (.int n)), some (.sh (.lst (cs.map pr))), some (.ow ((List.range cs.length).map fun i => optD (ps.find? (hitAt cs i)))), x, y, z, u], rfl, ⟨_, _, _, _, rfl⟩, ?_, ?_⟩
  · rintro ps row qs env' hx ⟨x, y, z, u, rfl⟩
    have hl := (bareL_row n row (by rw [hx]; simp)).1
    walk_at "dd"
    try simp only [intsD]
    refine ⟨_, cs.zipIdx, fun p => .tup [.int p.2, pr p.1], fun js env => ∃ z u, env = [some (.sh (.int n)), some (.sh (.lst (cs.map pr))), some (.ow ((List.range cs.length).map fun i => optD (midAt cs ps row js.length i))), some (.sh (.lst (row.map .int))), some (.sh (.lst ((gone (cs.take js.length) row).map .int))), z, u], enumF_map _ _ 0, ⟨_, _, rfl⟩, ?_, ?_⟩
    · rintro js p rs env' hx2 ⟨z, u, rfl⟩
      have hj : js.length < cs.length := by
        have := congrArg List.length hx2
        rw [List.length_zipIdx, List.length_append, List.length_cons] at this
        omega
      obtain ⟨c, i⟩ := p
      have hc : cs[js.length]? = some c ∧ i = js.length := by
        have : cs.zipIdx[js.length]? = some (c, i) := by rw [hx2]; simp
        rw [List.getElem?_zipIdx] at this
        cases e : cs[js.length]? with
        | none => rw [e] at this; cases this
        | some d =>
          rw [e] at this
          simp at this
          exact ⟨by rw [this.1], this.2.symm⟩
      obtain ⟨hc, rfl⟩ := hc
      obtain ⟨h1, h2, _⟩ := hw.ok c (List.mem_of_getElem? hc)
      have hg : (gone (cs.take js.length) row).length = n := by rw [gone_len]; exact hl
      have ht : gone (cs.take (js.length + 1)) row = passed (gone (cs.take js.length) row) c := by
        rw [List.take_add_one, hc]
        exact gone_snoc _ _ _
      have hh : hitAt cs js.length row = hit (gone (cs.take js.length) row) c := by
        unfold hitAt
        rw [List.getD_eq_getElem?_getD, hc]
        rfl
      have hjl : (js ++ [(c, js.length)]).length = js.length + 1 := by simp
      dsimp only
      rw [hjl, ht]
      have st := @mid_step cs ps row js.length
      rw [hh] at st
      generalize gone (cs.take js.length) row = r at hg st ⊢
      walk_at "dd"
      unfold sCut
      refine ⟨fun env => env = [some (.sh (.int n)), some (.sh (.lst (cs.map pr))), some (.ow ((List.range cs.length).map fun i => optD (midAt cs ps row (js.length + 1) i))), some (.sh (.lst (row.map .int))), some (.sh (.lst (r.map .int))), some (.sh (.int js.length)), some (.sh (pr c))], ?_, ?_⟩
      · walk_at "dd"
        have o1 : midAt cs ps row js.length js.length = ps.find? (hitAt cs js.length) := by
          unfold midAt
          rw [if_neg (Nat.lt_irrefl _)]
        generalize ps.find? (hitAt cs js.length) = old at st o1
        refine ⟨.int c.1, rfl, ?_⟩
        walk_at "dd"
        refine ⟨_, atI_int (by omega), .int c.2, rfl, ?_⟩
        walk_at "dd"
        refine ⟨_, atI_int (by omega), ?_⟩
        walk_at "dd"
        refine ⟨old.isNone, fun _ => ⟨optD old, ?_, ?_⟩, fun h => ⟨js.length, ixN_nat (by rw [List.length_map, List.length_range]; exact hj), ?_⟩, fun h => ?_⟩
        · rw [← o1]
          exact atI_map (f := fun i => optD (midAt cs ps row js.length i)) (by rw [List.getElem?_range hj])
        · rw [isN_opt]
          rfl
        · rw [Bool.and_eq_true, Option.isNone_iff_eq_none] at h
          have e : ∀ i, optD (midAt cs ps row (js.length + 1) i) = if i = js.length then .lst (row.map .int) else optD (midAt cs ps row js.length i) := fun i => by
            rw [st i]
            split
            · rw [h.2, if_pos (show hit r c = true from h.1)]
              rfl
            · rfl
          rw [set_range]
          simp only [e]
        · have e : ∀ i, midAt cs ps row (js.length + 1) i = midAt cs ps row js.length i := fun i => by
            rw [st i]
            split
            · rename_i z
              rw [z, o1]
              cases old with
              | some q => rfl
              | none =>
                have h : hit r c = false := by simpa [hit] using h
                rw [h]
                rfl
            · rfl
          simp only [e]
      · rintro env' rfl
        walk_at "dd"
        exact ⟨r, c, _, rfl, .inl rfl, by omega, by omega, _, _, rfl⟩
    · rintro env' ⟨z, u, rfl⟩
      have e : ((List.range cs.length).map fun i => optD (midAt cs ps row cs.zipIdx.length i)) = (List.range cs.length).map fun i => optD ((ps ++ [row]).find? (hitAt cs i)) := by
        apply List.map_congr_left
        intro i hi
        unfold midAt
        rw [List.length_zipIdx, if_pos (by simpa using hi)]
      rw [e]
      exact ⟨_, _, _, _, rfl⟩
  · rintro env' ⟨x, y, z, u, rfl⟩
    walk_at "dd"
    have e : (stirL n cs).map optD = (List.range cs.length).map fun i => optD ((bareL n).find? (hitAt cs i)) := by
      unfold stirL
      rw [List.map_map]
      rfl
    rw [e] at hQ
    exact hQ
theorem stirL_len (n : Nat) (cs : List (Nat × Nat)) : (stirL n cs).length = cs.length := by unfold stirL; simp
theorem stirL_get {n : Nat} {cs : List (Nat × Nat)} {i : Nat} (h : i < cs.length) : (stirL n cs)[i]? = some (stirAt n cs i) := by
  unfold stirL
  rw [List.getElem?_map, List.getElem?_range h]
  rfl
def sp_stirring : SpD := fun ds Q => ∃ (n : Nat) (cs : List (Nat × Nat)) (i : Nat), ds = [.int n, webD cs, .int i] ∧ IsWeb n cs ∧ i < cs.length ∧ Q (.sh (optD (stirAt n cs i)))
abbrev n_stirring : List Str := ["lines", "comparers", "place"]
def dt_stirring : DS := sSeq (sDrop (mN (bCall sp_need_web (baC (bV 0) (baC (bV 1) baN))))) (sSeq (sIf (qNot (qVal (bCall sp_is_among (baC (bV 2) (baC (bC (.int 0)) (baC (bOp fSub (bCall fLen (baC (bV 1) baN)) (bC (.int 1))) baN)))))) sNever sNext) (sRet (mN (bOp fIx (bCall sp_stirred (baC (bV 0) (baC (bV 1) baN))) (bV 2)))))

theorem l_stirring : ∀ ds Q, sp_stirring ds Q → ds.length = ["lines", "comparers", "place"].length := by rintro ds Q ⟨_, _, _, rfl, _⟩; rfl
theorem d_stirring : ∀ ds Q, sp_stirring ds Q → dt_stirring (ends0 Q) (env0 n_stirring.length ds) := by
  rintro ds Q ⟨n, cs, i, rfl, hw, hi, hQ⟩
  show dt_stirring (ends0 Q) [some (.sh (.int n)), some (.sh (.lst (cs.map pr))), some (.sh (.int i))]
  unfold dt_stirring
  walk_at "dd"
  refine ⟨n, cs, rfl, hw, ?_⟩
  rw [List.length_map]
  refine ⟨_, _, _, rfl, ty_i, ?_⟩
  rw [among_n (by omega) (by omega)]
  refine ⟨fun h => (by cases h), fun _ => ⟨n, cs, rfl, hw, ?_⟩⟩
  walk_at "dd"
  exact ⟨_, atI_map (stirL_get hi), hQ⟩
theorem idx_range {α : Type} (f : Nat → α) (m : Nat) : ((List.range m).map f).zipIdx = (List.range m).map fun i => (f i, i) := by
  apply List.ext_getElem?
  intro k
  rw [List.getElem?_zipIdx, List.getElem?_map, List.getElem?_map]
  cases e : (List.range m)[k]? with
  | none => rfl
  | some i =>
    have : i = k := by
      by_cases h : k < m
      · rw [List.getElem?_range h] at e
        exact (Option.some.inj e).symm
      · rw [List.getElem?_eq_none (by simp; omega)] at e
        cases e
    subst this
    simp
theorem zip_range {α β : Type} (f : Nat → α) (xs : List β) : xs.zip ((List.range xs.length).map f) = xs.zipIdx.map fun p => (p.1, f p.2) := by
  apply List.ext_getElem?
  intro k
  rw [List.getElem?_map, List.getElem?_zipIdx]
  by_cases h : k < xs.length
  · rw [List.getElem?_eq_getElem h, List.getElem?_eq_getElem (by simp [h])]
    simp
  · rw [List.getElem?_eq_none (by simp; omega), List.getElem?_eq_none (by omega)]
    rfl
theorem fm_if {α β : Type} (p : α → Bool) (g : α → β) : ∀ xs : List α, xs.filterMap (fun x => if p x = true then some (g x) else none) = (xs.filter p).map g
  | [] => rfl
  | x :: xs => by
    rw [List.filterMap_cons, List.filter_cons, fm_if p g xs]
    cases p x <;> rfl
def idleL (n : Nat) (cs : List (Nat × Nat)) : List Nat := (List.range cs.length).filter fun i => (stirAt n cs i).isNone
def sp_needless : SpD := fun ds Q => ∃ (n : Nat) (cs : List (Nat × Nat)), ds = [.int n, webD cs] ∧ IsWeb n cs ∧ Q (.ow ((idleL n cs).map fun i => .int (i : Nat)))
abbrev n_needless : List Str := ["lines", "comparers", "place", "row"]
def dt_needless : DS := sSeq (sDrop (mN (bCall sp_need_web (baC (bV 0) (baC (bV 1) baN))))) (sRet (mN (bLc (biE (bCall sp_stirred (baC (bV 0) (baC (bV 1) baN)))) (.t [2, 3]) (qVal (bOp (fIsN false) (bV 3) (bC .non))) (bV 2) [2, 3])))

theorem l_needless : ∀ ds Q, sp_needless ds Q → ds.length = ["lines", "comparers"].length := by rintro ds Q ⟨_, _, rfl, _⟩; rfl
theorem d_needless : ∀ ds Q, sp_needless ds Q → dt_needless (ends0 Q) (env0 n_needless.length ds) := by
  rintro ds Q ⟨n, cs, rfl, hw, hQ⟩
  show dt_needless (ends0 Q) [some (.sh (.int n)), some (.sh (.lst (cs.map pr))), none, none]
  unfold dt_needless
  walk_at "dd"
  refine ⟨n, cs, rfl, hw, ?_⟩
  unfold bLc
  walk_at "dd"
  refine ⟨n, cs, rfl, hw, ?_⟩
  walk_at "dd"
  have hm := hw.len
  refine ⟨by rw [enumF_len, List.length_map, stirL_len]; omega, _, List.range cs.length, fun i => .tup [.int i, optD (stirAt n cs i)], fun i => if (stirAt n cs i).isNone = true then some (.int i) else none, ?_, fun i _ => ?_, ?_⟩
  · rw [enumF_map]
    unfold stirL
    rw [idx_range, List.map_map]
    rfl
  · walk_at "dd"
    rw [isN_opt]
    exact ⟨fun h => if_pos h, fun h => if_neg (by rw [h]; decide)⟩
  · rw [fm_if]
    exact hQ
def prunedL (n : Nat) (cs : List (Nat × Nat)) : List (Nat × Nat) := (cs.zipIdx.filter fun p => (stirAt n cs p.2).isSome).map (·.1)
def sp_pruned : SpD := fun ds Q => ∃ (n : Nat) (cs : List (Nat × Nat)), ds = [.int n, webD cs] ∧ IsWeb n cs ∧ Q (.ow ((prunedL n cs).map pr))
abbrev n_pruned : List Str := ["lines", "comparers", "comparer", "row"]
def dt_pruned : DS := sSeq (sDrop (mN (bCall sp_need_web (baC (bV 0) (baC (bV 1) baN))))) (sRet (mN (bLc (biZ (baC (bV 1) (baC (bCall sp_stirred (baC (bV 0) (baC (bV 1) baN))) baN))) (.t [2, 3]) (qVal (bOp (fIsN true) (bV 3) (bC .non))) (bV 2) [2, 3])))

theorem l_pruned : ∀ ds Q, sp_pruned ds Q → ds.length = ["lines", "comparers"].length := by rintro ds Q ⟨_, _, rfl, _⟩; rfl
theorem d_pruned : ∀ ds Q, sp_pruned ds Q → dt_pruned (ends0 Q) (env0 n_pruned.length ds) := by
  rintro ds Q ⟨n, cs, rfl, hw, hQ⟩
  show dt_pruned (ends0 Q) [some (.sh (.int n)), some (.sh (.lst (cs.map pr))), none, none]
  unfold dt_pruned
  walk_at "dd"
  refine ⟨n, cs, rfl, hw, ?_⟩
  unfold bLc
  walk_at "dd"
  refine ⟨n, cs, rfl, hw, ?_⟩
  walk_at "dd"
  have hm := hw.len
  refine ⟨by rw [List.length_zipWith, List.length_map]; omega, _, cs.zipIdx, fun p => .tup [pr p.1, optD (stirAt n cs p.2)], fun p => if (stirAt n cs p.2).isSome = true then some (pr p.1) else none, ?_, fun p _ => ?_, ?_⟩
  · rw [zip_map]
    unfold stirL
    rw [zip_range, List.map_map]
    rfl
  · walk_at "dd"
    rw [isNn_opt]
    exact ⟨fun h => if_pos h, fun h => if_neg (by rw [h]; decide)⟩
  · rw [fm_if]
    unfold prunedL at hQ
    rw [List.map_map] at hQ
    exact hQ
end W

/-! MW: plain laws of webs: noughts and ones tell of all numbers. -/
namespace W
def Mono (f : Int → Int) : Prop := ∀ a b, a ≤ b → f a ≤ f b
def thr (p x : Int) : Int := if p ≤ x then 1 else 0
theorem thr_mono (p : Int) : Mono (thr p) := fun a b h => by unfold thr; split <;> split <;> omega
theorem thr_bit (p x : Int) : thr p x = 0 ∨ thr p x = 1 := by unfold thr; split <;> omega
theorem getD_map {f : Int → Int} {row : List Int} {i : Nat} (h : i < row.length) : (row.map f).getD i 0 = f (row.getD i 0) := by
  rw [List.getD_eq_getElem?_getD, List.getD_eq_getElem?_getD, List.getElem?_map, List.getElem?_eq_getElem h]
  rfl
theorem set_id {α : Type} {l : List α} {i : Nat} {v : α} (h : l[i]? = some v) : l.set i v = l := by
  apply List.ext_getElem?
  intro k
  rw [List.getElem?_set]
  by_cases z : i = k
  · subst z
    have := (List.getElem?_eq_some_iff.mp h).1
    rw [if_pos rfl, if_pos this, h]
  · rw [if_neg z]
theorem get_getD {row : List Int} {i : Nat} (h : i < row.length) : row[i]? = some (row.getD i 0) := by
  rw [List.getD_eq_getElem?_getD, List.getElem?_eq_getElem h]
  rfl
theorem passed_map {f : Int → Int} (hf : Mono f) {row : List Int} {c : Nat × Nat} (h1 : c.1 < row.length) (h2 : c.2 < row.length) : passed (row.map f) c = (passed row c).map f := by
  have g1 : (row.map f)[c.1]? = some (f (row.getD c.1 0)) := by rw [List.getElem?_map, get_getD h1]; rfl
  have g2 : (row.map f)[c.2]? = some (f (row.getD c.2 0)) := by rw [List.getElem?_map, get_getD h2]; rfl
  unfold passed
  rw [getD_map h1, getD_map h2]
  by_cases h : row.getD c.2 0 < row.getD c.1 0
  · rw [if_pos h, List.map_set, List.map_set]
    have := hf _ _ (Int.le_of_lt h)
    by_cases k : f (row.getD c.2 0) < f (row.getD c.1 0)
    · rw [if_pos k]
    · rw [if_neg k]
      have e : f (row.getD c.2 0) = f (row.getD c.1 0) := by omega
      rw [e, set_id g1, set_id (by rw [g2, e])]
  · rw [if_neg h, if_neg]
    have := hf _ _ (Int.not_lt.mp h)
    omega
def Fits (cs : List (Nat × Nat)) (n : Nat) : Prop := ∀ c ∈ cs, c.1 < n ∧ c.2 < n
theorem IsWeb.fits {n : Nat} {cs : List (Nat × Nat)} (h : IsWeb n cs) : Fits cs n := fun c m => ⟨(h.ok c m).1, (h.ok c m).2.1⟩
theorem gone_cons (c : Nat × Nat) (cs : List (Nat × Nat)) (row : List Int) : gone (c :: cs) row = gone cs (passed row c) := rfl
theorem gone_map {f : Int → Int} (hf : Mono f) : ∀ (cs : List (Nat × Nat)) (row : List Int), Fits cs row.length → gone cs (row.map f) = (gone cs row).map f
  | [], _, _ => rfl
  | c :: cs, row, h => by
    obtain ⟨h1, h2⟩ := h c (by simp)
    rw [gone_cons, gone_cons, passed_map hf h1 h2, gone_map hf cs (passed row c) fun d m => by rw [passed_len]; exact h d (List.mem_cons_of_mem _ m)]
theorem rising_map {f : Int → Int} (hf : Mono f) : ∀ row : List Int, rising row = true → rising (row.map f) = true
  | [], _ => rfl
  | [_], _ => rfl
  | a :: b :: r, h => by
    have h : (decide (a ≤ b) && rising (b :: r)) = true := h
    rw [Bool.and_eq_true, decide_eq_true_iff] at h
    show (decide (f a ≤ f b) && rising ((b :: r).map f)) = true
    rw [rising_map hf (b :: r) h.2, decide_eq_true (hf a b h.1)]
    rfl
theorem not_rising : ∀ row : List Int, rising row = false → ∃ p, rising (row.map (thr p)) = false
  | [], h => by cases h
  | [_], h => by cases h
  | a :: b :: r, h => by
    have h : (decide (a ≤ b) && rising (b :: r)) = false := h
    by_cases hab : a ≤ b
    · rw [decide_eq_true hab, Bool.true_and] at h
      obtain ⟨p, hp⟩ := not_rising (b :: r) h
      refine ⟨p, ?_⟩
      show (decide (thr p a ≤ thr p b) && rising ((b :: r).map (thr p))) = false
      rw [hp, Bool.and_false]
    · refine ⟨a, ?_⟩
      show (decide (thr a a ≤ thr a b) && rising ((b :: r).map (thr a))) = false
      have : ¬ thr a a ≤ thr a b := by
        unfold thr
        rw [if_pos (Int.le_refl a), if_neg (by omega)]
        decide
      rw [decide_eq_false this]
      rfl
theorem rising_pair : ∀ row : List Int, rising row = true ↔ row.Pairwise (· ≤ ·)
  | [] => ⟨fun _ => .nil, fun _ => rfl⟩
  | [a] => ⟨fun _ => .cons (fun _ m => by cases m) .nil, fun _ => rfl⟩
  | a :: b :: r => by
    show (decide (a ≤ b) && rising (b :: r)) = true ↔ _
    rw [Bool.and_eq_true, decide_eq_true_iff, rising_pair (b :: r)]
    constructor
    · rintro ⟨h1, h2⟩
      refine .cons (fun x m => ?_) h2
      rcases List.mem_cons.mp m with rfl | m
      · exact h1
      · have := List.rel_of_pairwise_cons h2 m
        omega
    · intro h
      exact ⟨List.rel_of_pairwise_cons h (by simp), h.of_cons⟩
theorem srt_len (ns : List Int) : (srt ns).length = ns.length := (srt_perm ns).length_eq
theorem srt_rising (ns : List Int) : rising (srt ns) = true := (rising_pair _).mpr (srt_le ns)
theorem eq_srt (ns : List Int) : decide (ns = srt ns) = rising ns := by
  cases h : rising ns with
  | true => exact decide_eq_true (sorted_one (srt_perm ns).symm ((rising_pair ns).mp h) (srt_le ns))
  | false =>
    refine decide_eq_false fun e => ?_
    rw [e, srt_rising] at h
    cases h
/-! ### unsorted, differing -/
theorem thr_bare {n : Nat} {row : List Int} (h : row.length = n) (p : Int) : row.map (thr p) ∈ bareL n := bareL_all n _ (by rw [List.length_map]; exact h) fun x m => by
  obtain ⟨y, _, rfl⟩ := List.mem_map.mp m
  exact thr_bit p y
theorem unsorted_none {n : Nat} {cs : List (Nat × Nat)} (hw : Fits cs n) (h : unsortedL n cs = none) {row : List Int} (hl : row.length = n) : rising (gone cs row) = true := by
  cases e : rising (gone cs row) with
  | true => rfl
  | false =>
    obtain ⟨p, hp⟩ := not_rising _ e
    rw [← gone_map (thr_mono p) cs row (by rw [hl]; exact hw)] at hp
    unfold unsortedL at h
    have := List.find?_eq_none.mp h _ (thr_bare hl p)
    rw [hp] at this
    exact (this rfl).elim
theorem unsorted_some {n : Nat} {cs : List (Nat × Nat)} {told : List Int} (h : unsortedL n cs = some told) : told ∈ bareL n ∧ rising (gone cs told) = false := by
  unfold unsortedL at h
  refine ⟨List.mem_of_find?_eq_some h, ?_⟩
  have := List.find?_some h
  simpa using this
theorem differ_none {n : Nat} {cs es : List (Nat × Nat)} (h : ∀ row, row.length = n → gone cs row = gone es row) : differL n cs es = none := by
  unfold differL
  refine List.find?_eq_none.mpr fun r m => ?_
  rw [h r (bareL_row n r m).1]
  simp
theorem differ_some {n : Nat} {cs es : List (Nat × Nat)} {told : List Int} (h : differL n cs es = some told) : told ∈ bareL n ∧ gone cs told ≠ gone es told := by
  unfold differL at h
  refine ⟨List.mem_of_find?_eq_some h, ?_⟩
  have := List.find?_some h
  simpa using this
/-- a row that lies upon noughts and ones like the told one comes out unsorted, too -/
theorem laid_unsorted {n : Nat} {cs : List (Nat × Nat)} (hw : Fits cs n) {told laid : List Int} {p : Int} (h : unsortedL n cs = some told) (hp : laid.map (thr p) = told) : rising (gone cs laid) = false := by
  obtain ⟨h1, h2⟩ := unsorted_some h
  have hl : laid.length = n := by rw [← (bareL_row n told h1).1, ← hp, List.length_map]
  cases e : rising (gone cs laid) with
  | false => rfl
  | true =>
    have := rising_map (thr_mono p) _ e
    rw [← gone_map (thr_mono p) cs laid (by rw [hl]; exact hw), hp, h2] at this
    cases this
/-! ### what stirs -/
theorem hit_map {f : Int → Int} (hf : Mono f) {row : List Int} {c : Nat × Nat} (h1 : c.1 < row.length) (h2 : c.2 < row.length) (h : hit (row.map f) c = true) : hit row c = true := by
  unfold hit at h ⊢
  rw [getD_map h1, getD_map h2, decide_eq_true_iff] at h
  rw [decide_eq_true_iff]
  by_cases z : row.getD c.2 0 < row.getD c.1 0
  · exact z
  · have := hf _ _ (Int.not_lt.mp z)
    omega
theorem hit_thr {row : List Int} {c : Nat × Nat} (h1 : c.1 < row.length) (h2 : c.2 < row.length) (h : hit row c = true) : ∃ p, hit (row.map (thr p)) c = true := by
  unfold hit at h
  rw [decide_eq_true_iff] at h
  refine ⟨row.getD c.1 0, ?_⟩
  unfold hit
  rw [getD_map h1, getD_map h2, decide_eq_true_iff]
  unfold thr
  rw [if_pos (Int.le_refl _), if_neg (by omega)]
  decide
theorem Fits.take {cs : List (Nat × Nat)} {n : Nat} (h : Fits cs n) (i : Nat) : Fits (cs.take i) n := fun c m => h c (List.mem_of_mem_take m)
theorem Fits.at {cs : List (Nat × Nat)} {n i : Nat} {c : Nat × Nat} (h : Fits cs n) (hc : cs[i]? = some c) : c.1 < n ∧ c.2 < n := h c (List.mem_of_getElem? hc)
theorem hitAt_get {cs : List (Nat × Nat)} {i : Nat} {c : Nat × Nat} (hc : cs[i]? = some c) (r : List Int) : hitAt cs i r = hit (gone (cs.take i) r) c := by
  unfold hitAt
  rw [List.getD_eq_getElem?_getD, hc]
  rfl
theorem stir_none {n : Nat} {cs : List (Nat × Nat)} (hw : Fits cs n) {i : Nat} {c : Nat × Nat} (hc : cs[i]? = some c) (h : stirAt n cs i = none) {row : List Int} (hl : row.length = n) : hit (gone (cs.take i) row) c = false := by
  obtain ⟨h1, h2⟩ := hw.at hc
  cases e : hit (gone (cs.take i) row) c with
  | false => rfl
  | true =>
    obtain ⟨p, hp⟩ := hit_thr (by rw [gone_len]; omega) (by rw [gone_len]; omega) e
    rw [← gone_map (thr_mono p) _ row (by rw [hl]; exact hw.take i)] at hp
    unfold stirAt at h
    have := List.find?_eq_none.mp h _ (thr_bare hl p)
    rw [hitAt_get hc, hp] at this
    exact (this rfl).elim
theorem stir_some {n : Nat} {cs : List (Nat × Nat)} {i : Nat} {told : List Int} (h : stirAt n cs i = some told) : told ∈ bareL n ∧ hitAt cs i told = true := by
  unfold stirAt at h
  exact ⟨List.mem_of_find?_eq_some h, List.find?_some h⟩
theorem laid_hit {n : Nat} {cs : List (Nat × Nat)} (hw : Fits cs n) {i : Nat} {c : Nat × Nat} (hc : cs[i]? = some c) {told laid : List Int} {p : Int} (h : stirAt n cs i = some told) (hp : laid.map (thr p) = told) : hit (gone (cs.take i) laid) c = true := by
  obtain ⟨h1, h2⟩ := stir_some h
  obtain ⟨b1, b2⟩ := hw.at hc
  have hl : laid.length = n := by rw [← (bareL_row n told h1).1, ← hp, List.length_map]
  rw [hitAt_get hc, ← hp, gone_map (thr_mono p) _ laid (by rw [hl]; exact hw.take i)] at h2
  exact hit_map (thr_mono p) (by rw [gone_len]; omega) (by rw [gone_len]; omega) h2
theorem passed_idle {r : List Int} {c : Nat × Nat} (h : hit r c = false) : passed r c = r := by
  unfold passed
  rw [if_neg (of_decide_eq_false h)]
/-! ### without what is needless -/
def prunedTo (n : Nat) (cs : List (Nat × Nat)) (k : Nat) : List (Nat × Nat) := ((cs.take k).zipIdx.filter fun p => (stirAt n cs p.2).isSome).map (·.1)
theorem prunedTo_all (n : Nat) (cs : List (Nat × Nat)) : prunedTo n cs cs.length = prunedL n cs := by unfold prunedTo prunedL; rw [List.take_length]
theorem prunedTo_succ {n : Nat} {cs : List (Nat × Nat)} {k : Nat} {c : Nat × Nat} (hc : cs[k]? = some c) : prunedTo n cs (k + 1) = prunedTo n cs k ++ if (stirAt n cs k).isSome = true then [c] else [] := by
  have hk := (List.getElem?_eq_some_iff.mp hc).1
  unfold prunedTo
  rw [List.take_add_one, hc, List.zipIdx_append, List.filter_append, List.map_append]
  congr 1
  rw [List.length_take, Nat.min_eq_left (by omega)]
  show List.map _ (List.filter _ [(c, 0 + k)]) = _
  rw [Nat.zero_add, List.filter_cons]
  cases (stirAt n cs k).isSome <;> rfl
theorem pruned_gone {n : Nat} {cs : List (Nat × Nat)} (hw : Fits cs n) {row : List Int} (hl : row.length = n) : ∀ k, k ≤ cs.length → gone (prunedTo n cs k) row = gone (cs.take k) row
  | 0, _ => rfl
  | k + 1, h => by
    have ih := pruned_gone hw hl k (by omega)
    obtain ⟨c, hc⟩ : ∃ c, cs[k]? = some c := ⟨cs[k], List.getElem?_eq_getElem (by omega)⟩
    rw [prunedTo_succ hc, List.take_add_one, hc]
    show _ = gone (cs.take k ++ [c]) row
    rw [gone_snoc]
    cases e : stirAt n cs k with
    | some t =>
      show gone (prunedTo n cs k ++ [c]) row = _
      rw [gone_snoc, ih]
    | none =>
      show gone (prunedTo n cs k ++ []) row = _
      rw [List.append_nil, ih, passed_idle (stir_none hw hc e hl)]
theorem pruned_same {n : Nat} {cs : List (Nat × Nat)} (hw : Fits cs n) {row : List Int} (hl : row.length = n) : gone (prunedL n cs) row = gone cs row := by
  have := pruned_gone hw hl cs.length (Nat.le_refl _)
  rwa [prunedTo_all, List.take_length] at this
theorem pruned_at {n : Nat} {cs : List (Nat × Nat)} : ∀ k, k ≤ cs.length → ∀ j c, (prunedTo n cs k)[j]? = some c → ∃ i, i < k ∧ (prunedTo n cs k).take j = prunedTo n cs i ∧ cs[i]? = some c ∧ (stirAt n cs i).isSome = true
  | 0, _, j, c, h => by
    rw [show prunedTo n cs 0 = [] from rfl] at h
    simp at h
  | k + 1, hk, j, c, h => by
    obtain ⟨d, hd⟩ : ∃ d, cs[k]? = some d := ⟨cs[k], List.getElem?_eq_getElem (by omega)⟩
    rw [prunedTo_succ hd] at h ⊢
    by_cases hj : j < (prunedTo n cs k).length
    · rw [List.getElem?_append_left hj] at h
      obtain ⟨i, h1, h2, h3, h4⟩ := pruned_at k (by omega) j c h
      exact ⟨i, by omega, by rw [List.take_append_of_le_length (by omega)]; exact h2, h3, h4⟩
    · cases e : (stirAt n cs k).isSome with
      | false =>
        rw [e] at h
        simp at h
        have := (List.getElem?_eq_some_iff.mp h).1
        omega
      | true =>
        rw [e, if_pos rfl] at h
        rw [List.getElem?_append_right (by omega)] at h
        have hj2 : j = (prunedTo n cs k).length := by
          have := (List.getElem?_eq_some_iff.mp h).1
          simp at this
          omega
        subst hj2
        simp at h
        subst h
        refine ⟨k, Nat.lt_succ_self k, ?_, hd, e⟩
        rw [if_pos rfl, List.take_append_of_le_length (Nat.le_refl _), List.take_length]
theorem pruned_fits {n : Nat} {cs : List (Nat × Nat)} (hw : IsWeb n cs) : IsWeb n (prunedL n cs) := by
  have key : ∀ c ∈ prunedL n cs, c ∈ cs := fun c m => by
    unfold prunedL at m
    obtain ⟨p, hp, rfl⟩ := List.mem_map.mp m
    obtain ⟨a, i⟩ := p
    exact (List.mem_zipIdx (List.mem_filter.mp hp |>.1)).2.2 ▸ List.getElem_mem _
  refine ⟨hw.lo, hw.hi, ?_, fun c m => hw.ok c (key c m)⟩
  unfold prunedL
  rw [List.length_map]
  refine Nat.le_trans (List.length_filter_le _ _) ?_
  rw [List.length_zipIdx]
  exact hw.len
theorem pruned_idle {n : Nat} {cs : List (Nat × Nat)} (hw : IsWeb n cs) : idleL n (prunedL n cs) = [] := by
  unfold idleL
  refine List.filter_eq_nil_iff.mpr fun j hj => ?_
  have hj : j < (prunedL n cs).length := by simpa using hj
  obtain ⟨c, hc⟩ : ∃ c, (prunedL n cs)[j]? = some c := ⟨(prunedL n cs)[j], List.getElem?_eq_getElem hj⟩
  rw [← prunedTo_all] at hc
  obtain ⟨i, h1, h2, h3, h4⟩ := pruned_at cs.length (Nat.le_refl _) j c hc
  obtain ⟨t, ht⟩ := Option.isSome_iff_exists.mp h4
  obtain ⟨g1, g2⟩ := stir_some ht
  have hl := (bareL_row n t g1).1
  rw [hitAt_get h3] at g2
  have e : hitAt (prunedL n cs) j t = true := by
    rw [hitAt_get (c := c) (by rw [← prunedTo_all]; exact hc), ← prunedTo_all, h2, pruned_gone hw.fits hl i (by omega)]
    exact g2
  intro z
  have z : (stirAt n (prunedL n cs) j).isNone = true := z
  rw [Option.isNone_iff_eq_none] at z
  unfold stirAt at z
  exact List.find?_eq_none.mp z t g1 e
theorem idle_mem {n : Nat} {cs : List (Nat × Nat)} {i : Nat} (h : i < cs.length) : i ∈ idleL n cs ↔ stirAt n cs i = none := by
  unfold idleL
  rw [List.mem_filter, List.mem_range, Option.isNone_iff_eq_none]
  exact ⟨fun z => z.2, fun z => ⟨h, z⟩⟩
end W

/-! PB: the laws' own going, rows of noughts and ones. -/
namespace W
open PySem L2
local macro_rules | `(tactic| walk_at "dd") => `(tactic| simp only [sRaise, sRaiseP, sCallX, sSetX, sTry, sTry2, sSeq, sAsg, sAsgG, sDrop, sRet, sRetN, sIf, sNext, sNever, sCont, sApp, sAppT, sIns, sPopAt, sShare, sAppAt, gT2, gX, mS, mN, mA, mT2, sPar3, bLz, qCh3, sPar, sExt, bLr1, bLr2, mPop, mPopAt, mIf, bCount, noIs_n, noIs_c, noI_i, noI_web, mkLst_d, mkTup_d, put_pr, fIx_pr, intsD, webD, mH, half_ows, half_ow, half_sh, half_lst1, half_lst1s, clean_lst1, sets_n, sets_c, List.map_cons, List.map_nil, bOp, bC_eq, bV0, bV1, mV0, mV1, fAdd_i, fAdd_l, fAdd_s, fAdd_t, fMul_i, fMul_l, fI0_eq, fI_eq, fIx_l, fIx_t, fIx_s, fEq_eq, fNe_eq, asB_eq, asI_eq, fLen_l, fLen_f, fLen_t, fLen_s, fList_l, fList_f, fList_t, fTuple_l, fTuple_t, fMax2_i, fMin2_i, fSl_l, fSl_f, fSl_s, fSlS_l, fSlS_t, isN_int, isN_str, isN_lst, isN_tup, isN_bl, isN_non, put_n, put_t2, put_p2, put_t3, d_sh, d_ow, d_tp, d_ows, ds_n, ds_c, hide_n, hide_cons, hideO_sh, hideO_ow, hideO_ows, hideO_tp, hideO_n, wipeE_n, wipeE_c, mkTup_0, mkTup_1, mkTup_2, mkTup_3, mkLst_0, mkLst_1, mkLst_2, mkLst_3, mkLst_4, isOw_ow, isOw_ows, shO_some, shO_none, clean_sh, clean_ow, clean_i, clean_b, clean_s, clean_n, clean_t, cleans_n, cleans_c, fine_i, fine_b, fine_n, deq_i, deq_b, deq_s, n0, n1, List.set_cons_zero, List.set_cons_succ, List.set_nil, Option.some.injEq, exists_eq_left', bCall, baC, baN, qVal, qAnd, qOr, qNot, qYes, bAnd, bOr, bNot, bCh, bIf, bTup, bLst, bSl, bSlS, boN, boS, bRev, bNeg, bIsi, biL, biT, bi1, bi2, bi3, biE, biZ, List.length_cons, List.length_nil, true_and, and_true, Bool.and_true, Bool.true_and, Bool.not_not, reduceCtorEq, false_implies, implies_true, true_implies, forall_const, Bool.not_true, Bool.not_false, Bool.false_or, Bool.true_or, Bool.or_false, Bool.or_true, Bool.and_false, Bool.false_and, tyN_i, isT_i_int, isT_i_bool, isT_i_list, isT_i_tuple, isT_i_str, tyN_b, isT_b_int, isT_b_bool, isT_b_list, isT_b_tuple, isT_b_str, tyN_n, isT_n_int, isT_n_bool, isT_n_list, isT_n_tuple, isT_n_str, tyN_s, isT_s_int, isT_s_bool, isT_s_list, isT_s_tuple, isT_s_str, tyN_l, isT_l_int, isT_l_bool, isT_l_list, isT_l_tuple, isT_l_str, tyN_t, isT_t_int, isT_t_bool, isT_t_list, isT_t_tuple, isT_t_str, tyN_f, isT_f_int, isT_f_bool, isT_f_list, isT_f_tuple, isT_f_str, fInt_i, fInt_b, bLenSet, bMeet, sSubA, tyN_d, isT_d_int, isT_d_bool, isT_d_list, isT_d_tuple, isT_d_str, bLines, bLaid, bPast, bnS_bn, bMeth0, isBn_bn, bMake, mMeth, bnAt_bn, dtAt_dt, sLaidApp, sPastApp, sDPutT, bDNew, sIfN, d_bn, d_dt, hideO_bn, hideO_dt, shO_bn, fSl_t, d_md, d_ol, d_ml, hideO_md, hideO_ol, hideO_ml2, clean_dt, clean_exc, mdS_md, mdN_md, mdN_mdn, bMLines, bMWeb, mOp, mIsi, mtVal, mtNot, mtOr, sIfT, mMeth0, sOlApp, mF])
theorem pass_minmax {r : List Int} {c : Nat × Nat} (h1 : c.1 < r.length) (h2 : c.2 < r.length) : (r.set c.1 (min (r.getD c.1 0) (r.getD c.2 0))).set c.2 (max (r.getD c.1 0) (r.getD c.2 0)) = passed r c := by
  unfold passed
  by_cases h : r.getD c.2 0 < r.getD c.1 0
  · rw [if_pos h, show min (r.getD c.1 0) (r.getD c.2 0) = r.getD c.2 0 by omega, show max (r.getD c.1 0) (r.getD c.2 0) = r.getD c.1 0 by omega]
  · rw [if_neg h, show min (r.getD c.1 0) (r.getD c.2 0) = r.getD c.1 0 by omega, show max (r.getD c.1 0) (r.getD c.2 0) = r.getD c.2 0 by omega, set_id (get_getD h1), set_id (get_getD h2)]
def sp__law_gone : SpD := fun ds Q => ∃ (cs : List (Nat × Nat)) (row : List Int), ds = [webD cs, intsD row] ∧ Fits cs row.length ∧ Q (.ow ((gone cs row).map .int))
abbrev n__law_gone : List Str := ["_law_comparers", "_law_row", "_law_found", "_law_a", "_law_b"]
def dt__law_gone : DS := sSeq (sAsg (.n 2) (mN (bCall fList (baC (bV 1) baN)))) (sSeq (sFor (biL (bV 0)) (.t [3, 4]) (sAsgG (gT2 (gX 2 (mN (bV 3))) (gX 2 (mN (bV 4)))) (mA (bTup (baC (bCall fMin2 (baC (bOp fIx (bV 2) (bV 3)) (baC (bOp fIx (bV 2) (bV 4)) baN))) (baC (bCall fMax2 (baC (bOp fIx (bV 2) (bV 3)) (baC (bOp fIx (bV 2) (bV 4)) baN))) baN)))))) (sRet (mV 2)))

theorem l__law_gone : ∀ ds Q, sp__law_gone ds Q → ds.length = ["_law_comparers", "_law_row"].length := by rintro ds Q ⟨_, _, rfl, _⟩; rfl
theorem d__law_gone : ∀ ds Q, sp__law_gone ds Q → dt__law_gone (ends0 Q) (env0 n__law_gone.length ds) := by
  rintro ds Q ⟨cs, row, rfl, hf, hQ⟩
  show dt__law_gone (ends0 Q) [some (.sh (.lst (cs.map pr))), some (.sh (.lst (row.map .int))), none, none, none]
  unfold dt__law_gone
  walk_at "dd"
  unfold sFor
  walk_at "dd"
  refine ⟨_, cs, pr, fun ps env => ∃ x y, env = [some (.sh (.lst (cs.map pr))), some (.sh (.lst (row.map .int))), some (.ow ((gone ps row).map .int)), x, y], rfl, ⟨_, _, rfl⟩, ?_, ?_⟩
  · rintro ps c qs env' hx ⟨x, y, rfl⟩
    obtain ⟨h1, h2⟩ := hf c (by rw [hx]; simp)
    have hg : (gone ps row).length = row.length := gone_len _ _
    dsimp only
    rw [gone_snoc]
    generalize gone ps row = r at hg ⊢
    rw [← hg] at h1 h2
    walk_at "dd"
    refine ⟨_, atI_int h1, _, atI_int h2, ?_⟩
    walk_at "dd"
    refine ⟨_, atI_int h1, _, atI_int h2, ?_⟩
    walk_at "dd"
    refine ⟨by decide, c.1, ixN_nat (by rw [List.length_map]; exact h1), c.2, ixN_nat (by rw [List.length_set, List.length_map]; exact h2), some (.sh (.int c.1)), some (.sh (.int c.2)), ?_⟩
    rw [← List.map_set, ← List.map_set, pass_minmax h1 h2]
  · rintro env' ⟨x, y, rfl⟩
    walk_at "dd"
    exact hQ
/-! ### rows of noughts and ones, by the bits of numbers -/
def bit (N k : Nat) : Int := Builtin.bitAnd ((N : Int) / 2 ^ k) 1
def bareB (n : Nat) : List (List Int) := (List.range (2 ^ n)).map fun N => (List.range n).map (bit N)
theorem bit_eq (N k : Nat) : bit N k = ((N / 2 ^ k % 2 : Nat) : Int) := by
  unfold bit
  rw [show ((N : Int) / 2 ^ k) = ((N / 2 ^ k : Nat) : Int) by simp]
  generalize N / 2 ^ k = m
  unfold Builtin.bitAnd
  rw [decide_eq_true (show (0 : Int) ≤ (m : Int) by omega), decide_eq_true (show (0 : Int) ≤ 1 by decide)]
  show (((m &&& 1) : Nat) : Int) = _
  rw [Nat.and_one_is_mod]
def valOf : List Int → Nat
  | [] => 0
  | x :: r => (if x = 1 then 1 else 0) + 2 * valOf r
theorem valOf_lt : ∀ r : List Int, valOf r < 2 ^ r.length
  | [] => by decide
  | x :: r => by
    have := valOf_lt r
    rw [valOf, List.length_cons, Nat.pow_succ]
    split <;> omega
theorem valOf_bit : ∀ (r : List Int), (∀ x ∈ r, x = 0 ∨ x = 1) → ∀ k, k < r.length → bit (valOf r) k = r.getD k 0
  | [], _, k, h => by cases h
  | x :: r, hb, 0, _ => by
    rw [bit_eq, valOf]
    rcases hb x (by simp) with rfl | rfl
    · show (((_ : Nat) : Int)) = 0
      simp
    · show (((_ : Nat) : Int)) = 1
      simp
  | x :: r, hb, k + 1, h => by
    have ih := valOf_bit r (fun y m => hb y (List.mem_cons_of_mem _ m)) k (by simpa using h)
    rw [bit_eq] at ih ⊢
    rw [show (x :: r).getD (k + 1) 0 = r.getD k 0 by simp, ← ih, valOf, Nat.pow_succ, Nat.mul_comm (2 ^ k) 2, ← Nat.div_div_eq_div_mul]
    congr 3
    split <;> omega
theorem bareB_row {n : Nat} {r : List Int} (m : r ∈ bareB n) : r.length = n ∧ ∀ x ∈ r, x = 0 ∨ x = 1 := by
  obtain ⟨N, _, rfl⟩ := List.mem_map.mp m
  refine ⟨by simp, fun x hx => ?_⟩
  obtain ⟨k, _, rfl⟩ := List.mem_map.mp hx
  rw [bit_eq]
  omega
theorem bareB_all {n : Nat} {r : List Int} (h : r.length = n) (hb : ∀ x ∈ r, x = 0 ∨ x = 1) : r ∈ bareB n := by
  refine List.mem_map.mpr ⟨valOf r, by rw [List.mem_range, ← h]; exact valOf_lt r, ?_⟩
  apply List.ext_getElem?
  intro k
  rw [List.getElem?_map]
  by_cases hk : k < n
  · rw [List.getElem?_range hk, get_getD (by omega)]
    show some (bit (valOf r) k) = _
    rw [valOf_bit r hb k (by omega)]
  · rw [List.getElem?_eq_none (by simp; omega), List.getElem?_eq_none (by omega)]
    rfl
theorem bare_iff {n : Nat} {r : List Int} : r ∈ bareB n ↔ r ∈ bareL n :=
  ⟨fun m => bareL_all n r (bareB_row m).1 (bareB_row m).2, fun m => bareB_all (bareL_row n r m).1 (bareL_row n r m).2⟩
theorem bareB_len (n : Nat) : (bareB n).length = 2 ^ n := by unfold bareB; simp
def sp__law_bare : SpD := fun ds Q => ∃ n : Nat, ds = [.int n] ∧ n ≤ 10 ∧ Q (.ow ((bareB n).map intsD))
abbrev n__law_bare : List Str := ["_law_lines", "_law_n", "_law_k"]
def dt__law_bare : DS := sRet (mN (bLc (bi1 (baC (bOp fShl (bC (.int 1)) (bV 0)) baN)) (.n 1) qYes (bLc (bi1 (baC (bV 0) baN)) (.n 2) qYes (bOp fAndI (bOp fShr (bV 1) (bV 2)) (bC (.int 1))) [2]) [1]))

theorem l__law_bare : ∀ ds Q, sp__law_bare ds Q → ds.length = ["_law_lines"].length := by rintro ds Q ⟨_, rfl, _⟩; rfl
theorem d__law_bare : ∀ ds Q, sp__law_bare ds Q → dt__law_bare (ends0 Q) (env0 n__law_bare.length ds) := by
  rintro ds Q ⟨n, rfl, hn, hQ⟩
  show dt__law_bare (ends0 Q) [some (.sh (.int n)), none, none]
  have hp : (2 : Nat) ^ n ≤ 2 ^ 10 := Nat.pow_le_pow_right (by decide) hn
  obtain ⟨M, hM⟩ : ∃ M, M = 2 ^ n := ⟨_, rfl⟩
  have e2 : (1 * 2 ^ (n : Int).toNat : Int) = (M : Int) := by rw [hM]; simp
  rw [← hM] at hp
  unfold bareB at hQ
  rw [← hM] at hQ
  unfold dt__law_bare
  unfold bLc
  walk_at "dd"
  rw [e2]
  refine ⟨⟨by omega, by omega, by decide⟩, by omega, by omega, by rw [List.length_map, ups_len]; omega, _, List.range M, _, fun N => some (intsD ((List.range n).map (bit N))), by rw [Int.toNat_natCast]; exact ups_range _, fun N _ => ?_, ?_⟩
  · walk_at "dd"
    refine ⟨by omega, by omega, by rw [List.length_map, ups_len]; omega, _, List.range n, _, fun k => some (.int (bit N k)), by rw [Int.toNat_natCast]; exact ups_range _, fun k _ => ?_, ?_⟩
    · walk_at "dd"
      exact ⟨by omega, rfl⟩
    · rw [fm_some]
      rw [List.map_map]
      rfl
  · rw [fm_some]
    rw [List.map_map] at hQ
    exact hQ
def sp__law_is_bare : SpD := fun ds Q => ∃ (n : Nat) (row : List Int), ds = [intsD row, .int n] ∧ n ≤ 1000 ∧ row.length = n ∧ (∀ x ∈ row, x = 0 ∨ x = 1) ∧ Q (.sh (.bl true))
abbrev n__law_is_bare : List Str := ["_law_row", "_law_lines", "_law_odd", "_law_bit"]
def dt__law_is_bare : DS := sSeq (sIf (qOr (qNot (qVal (bIsi "list" (bV 0)))) (qVal (bOp fNe (bCall fLen (baC (bV 0) baN)) (bV 1)))) (sRet (mN (bC (.bl false)))) sNext) (sSeq (sAsg (.n 2) (mS (mN (bLc (biL (bV 0)) (.n 3) (qOr (qVal (bIsi "bool" (bV 3))) (qNot (qVal (bIsi "int" (bV 3))))) (bV 3) [3])))) (sRet (mN (bAnd (bOp fEq (bV 2) (bLst baN)) (bOp fEq (bLc (biL (bV 0)) (.n 3) (qVal (bOp fNin (bV 3) (bTup (baC (bC (.int 0)) (baC (bC (.int 1)) baN))))) (bV 3) [3]) (bLst baN))))))

theorem l__law_is_bare : ∀ ds Q, sp__law_is_bare ds Q → ds.length = ["_law_row", "_law_lines"].length := by rintro ds Q ⟨_, _, rfl, _⟩; rfl
theorem d__law_is_bare : ∀ ds Q, sp__law_is_bare ds Q → dt__law_is_bare (ends0 Q) (env0 n__law_is_bare.length ds) := by
  rintro ds Q ⟨n, row, rfl, hn, hl, hb, hQ⟩
  show dt__law_is_bare (ends0 Q) [some (.sh (.lst (row.map .int))), some (.sh (.int n)), none, none]
  unfold dt__law_is_bare
  walk_at "dd"
  unfold bLc
  walk_at "dd"
  rw [List.length_map, hl, decide_eq_true rfl]
  have f1 : row.filterMap (fun _ => (none : Option D)) = [] := by clear hb hl; induction row <;> simp_all
  refine ⟨fun h => (by cases h), fun _ => ⟨by omega, _, row, D.int, fun _ => none, rfl, fun x _ => ⟨ty_i, _, fun _ => ⟨ty_i, rfl⟩, by rw [isT_i_bool, isT_i_int]; exact fun h => (by cases h), fun _ => rfl⟩, by decide, ?_⟩⟩
  rw [f1]
  refine ⟨rfl, rfl, true, fun _ => ⟨by omega, _, row, D.int, fun _ => none, rfl, fun x m => ⟨by decide, x, [0, 1], rfl, .inr rfl, ?_⟩, ?_⟩, hQ⟩
  · have : decide (x ∈ ([0, 1] : List Int)) = true := decide_eq_true (by rcases hb x m with rfl | rfl <;> simp)
    rw [this]
    exact ⟨fun h => (by cases h), fun _ => rfl⟩
  · rw [f1]
    exact ⟨by decide, rfl, rfl, rfl⟩
def sp__law_is_web : SpD := fun ds Q => ∃ (cs es : List (Nat × Nat)), ds = [webD cs, webD es] ∧ cs.length ≤ 1000 ∧ Q (.sh (.bl (decide (cs = es))))
abbrev n__law_is_web : List Str := ["_law_found", "_law_due", "_law_comparer", "_law_line"]
def dt__law_is_web : DS := sSeq (sIf (qOr (qNot (qVal (bIsi "list" (bV 0)))) (qVal (bOp fNe (bV 0) (bV 1)))) (sRet (mN (bC (.bl false)))) sNext) (sSeq (sFor (biL (bV 0)) (.n 2) (sIf (qOr (qNot (qVal (bIsi "tuple" (bV 2)))) (qVal (bOp fNe (bLc (biT (bV 2)) (.n 3) (qVal (bIsi "bool" (bV 3))) (bV 3) [3]) (bLst baN)))) (sRet (mN (bC (.bl false)))) sNext)) (sRet (mN (bC (.bl true)))))

theorem l__law_is_web : ∀ ds Q, sp__law_is_web ds Q → ds.length = ["_law_found", "_law_due"].length := by rintro ds Q ⟨_, _, rfl, _⟩; rfl
theorem d__law_is_web : ∀ ds Q, sp__law_is_web ds Q → dt__law_is_web (ends0 Q) (env0 n__law_is_web.length ds) := by
  rintro ds Q ⟨cs, es, rfl, hn, hQ⟩
  show dt__law_is_web (ends0 Q) [some (.sh (.lst (cs.map pr))), some (.sh (.lst (es.map pr))), none, none]
  unfold dt__law_is_web
  walk_at "dd"
  unfold sFor
  walk_at "dd"
  refine ⟨_, ⟨fine_web cs 7, fine_web es 7, rfl⟩, fun h => ?_, fun h => ?_⟩
  · have e : deq (.lst (cs.map pr)) (.lst (es.map pr)) = decide (cs = es) := deq_web cs es
    rw [e, Bool.not_eq_true', decide_eq_false_iff_not] at h
    rw [decide_eq_false h] at hQ
    exact hQ
  · have e : deq (.lst (cs.map pr)) (.lst (es.map pr)) = decide (cs = es) := deq_web cs es
    rw [e, Bool.not_eq_false', decide_eq_true_iff] at h
    rw [decide_eq_true h] at hQ
    refine ⟨_, cs, pr, fun ps env => ∃ x, env = [some (.sh (.lst (cs.map pr))), some (.sh (.lst (es.map pr))), x, none], rfl, ⟨_, rfl⟩, ?_, ?_⟩
    · rintro ps c qs env' hx ⟨x, rfl⟩
      walk_at "dd"
      unfold bLc
      walk_at "dd"
      unfold pr
      walk_at "dd"
      refine ⟨false, ⟨by decide, _, [(c.1 : Int), (c.2 : Int)], D.int, fun _ => none, rfl, fun i _ => ⟨ty_i, by rw [isT_i_bool]; exact fun h => (by cases h), fun _ => rfl⟩, by decide, rfl, rfl, rfl⟩, fun h => (by cases h), fun _ => ⟨_, rfl⟩⟩
    · rintro env' ⟨x, rfl⟩
      exact hQ
theorem deq_lnil (ds : List D) : deq (.lst ds) (.lst []) = ds.isEmpty := by
  rw [deq_l]
  cases ds <;> rfl
theorem find_bare (n : Nat) (p : List Int → Bool) : ((bareB n).filter p).isEmpty = ((bareL n).find? p).isNone := by
  have e : ((bareB n).filter p).isEmpty = true ↔ ((bareL n).find? p).isNone = true := by
    rw [List.isEmpty_iff, List.filter_eq_nil_iff, Option.isNone_iff_eq_none, List.find?_eq_none]
    exact ⟨fun h r m => h r (bare_iff.mpr m), fun h r m => h r (bare_iff.mp m)⟩
  cases hz : ((bareL n).find? p).isNone with
  | true => exact e.mpr hz
  | false =>
    cases hy : ((bareB n).filter p).isEmpty with
    | false => rfl
    | true => rw [e.mp hy] at hz; cases hz
theorem bare_bound {n : Nat} (h : n ≤ 10) : (bareB n).length ≤ 1024 := by
  rw [bareB_len]
  exact Nat.pow_le_pow_right (by decide) h
theorem told_cons {n : Nat} {told : List Int} (hn : 1 ≤ n) (m : told ∈ bareL n) : ∃ x r, told = x :: r := by
  have := (bareL_row n told m).1
  cases told with
  | nil => simp at this; omega
  | cons x r => exact ⟨x, r, rfl⟩
theorem stepL_map {α β : Type} (f : α → β) (xs : List α) (lo hi : Option Int) (c : Int) : stepL (xs.map f) lo hi c = (stepL xs lo hi c).map f := by
  unfold stepL
  rw [List.length_map, List.map_filterMap]
  congr 1
  funext k
  rw [List.getElem?_map]
theorem stepL_mem {α : Type} {xs : List α} {lo hi : Option Int} {c : Int} {x : α} (m : x ∈ stepL xs lo hi c) : x ∈ xs := by
  unfold stepL at m
  obtain ⟨k, _, h⟩ := List.mem_filterMap.mp m
  exact List.mem_of_getElem? h
theorem stepL_all {α : Type} {xs : List α} {c : Int} (hc : c = 1 ∨ c = -1) : (stepL xs none none c).length ≤ xs.length := by
  unfold stepL
  refine Nat.le_trans (List.length_filterMap_le _ _) ?_
  unfold PySem.sliceRange
  rw [List.length_map, List.length_range]
  rcases hc with rfl | rfl
  · have h : PySem.sliceBounds none none (some 1) xs.length = (0, (xs.length : Int), 1) := rfl
    rw [h]
    dsimp only
    rw [if_pos (by decide)]
    split <;> omega
  · have h : PySem.sliceBounds none none (some (-1)) xs.length = ((xs.length : Int) - 1, -1, -1) := rfl
    rw [h]
    dsimp only
    rw [if_neg (by decide), show (-(-1) : Int) = 1 from rfl, Int.ediv_one]
    split <;> omega
theorem cut_mem {α : Type} {xs : List α} {lo hi : Option Int} {x : α} (m : x ∈ cutD xs lo hi) : x ∈ xs := by
  unfold cutD at m
  exact List.mem_of_mem_drop (List.mem_of_mem_take m)
theorem cut_len {α : Type} (xs : List α) (lo hi : Option Int) : (cutD xs lo hi).length ≤ xs.length := by
  unfold cutD
  rw [List.length_take, List.length_drop]
  omega
end W

/-! PX: a bench over data (bench.py). -/
namespace W
open PySem L2
local macro_rules | `(tactic| walk_at "dd") => `(tactic| simp only [sRaise, sRaiseP, sCallX, sSetX, sTry, sTry2, sSeq, sAsg, sAsgG, sDrop, sRet, sRetN, sIf, sNext, sNever, sCont, sApp, sAppT, sIns, sPopAt, sShare, sAppAt, gT2, gX, mS, mN, mA, mT2, sPar3, bLz, qCh3, sPar, sExt, bLr1, bLr2, mPop, mPopAt, mIf, bCount, noIs_n, noIs_c, noI_i, noI_web, mkLst_d, mkTup_d, put_pr, fIx_pr, intsD, webD, mH, half_ows, half_ow, half_sh, half_lst1, half_lst1s, clean_lst1, sets_n, sets_c, List.map_cons, List.map_nil, bOp, bC_eq, bV0, bV1, mV0, mV1, fAdd_i, fAdd_l, fAdd_s, fAdd_t, fMul_i, fMul_l, fI0_eq, fI_eq, fIx_l, fIx_t, fIx_s, fEq_eq, fNe_eq, asB_eq, asI_eq, fLen_l, fLen_f, fLen_t, fLen_s, fList_l, fList_f, fList_t, fTuple_l, fTuple_t, fMax2_i, fMin2_i, fSl_l, fSl_f, fSl_s, fSlS_l, fSlS_t, isN_int, isN_str, isN_lst, isN_tup, isN_bl, isN_non, put_n, put_t2, put_p2, put_t3, d_sh, d_ow, d_tp, d_ows, ds_n, ds_c, hide_n, hide_cons, hideO_sh, hideO_ow, hideO_ows, hideO_tp, hideO_n, wipeE_n, wipeE_c, mkTup_0, mkTup_1, mkTup_2, mkTup_3, mkLst_0, mkLst_1, mkLst_2, mkLst_3, mkLst_4, isOw_ow, isOw_ows, shO_some, shO_none, clean_sh, clean_ow, clean_i, clean_b, clean_s, clean_n, clean_t, cleans_n, cleans_c, fine_i, fine_b, fine_n, deq_i, deq_b, deq_s, n0, n1, List.set_cons_zero, List.set_cons_succ, List.set_nil, Option.some.injEq, exists_eq_left', bCall, baC, baN, qVal, qAnd, qOr, qNot, qYes, bAnd, bOr, bNot, bCh, bIf, bTup, bLst, bSl, bSlS, boN, boS, bRev, bNeg, bIsi, biL, biT, bi1, bi2, bi3, biE, biZ, List.length_cons, List.length_nil, true_and, and_true, Bool.and_true, Bool.true_and, Bool.not_not, reduceCtorEq, false_implies, implies_true, true_implies, forall_const, Bool.not_true, Bool.not_false, Bool.false_or, Bool.true_or, Bool.or_false, Bool.or_true, Bool.and_false, Bool.false_and, tyN_i, isT_i_int, isT_i_bool, isT_i_list, isT_i_tuple, isT_i_str, tyN_b, isT_b_int, isT_b_bool, isT_b_list, isT_b_tuple, isT_b_str, tyN_n, isT_n_int, isT_n_bool, isT_n_list, isT_n_tuple, isT_n_str, tyN_s, isT_s_int, isT_s_bool, isT_s_list, isT_s_tuple, isT_s_str, tyN_l, isT_l_int, isT_l_bool, isT_l_list, isT_l_tuple, isT_l_str, tyN_t, isT_t_int, isT_t_bool, isT_t_list, isT_t_tuple, isT_t_str, tyN_f, isT_f_int, isT_f_bool, isT_f_list, isT_f_tuple, isT_f_str, fInt_i, fInt_b, bLenSet, bMeet, sSubA, tyN_d, isT_d_int, isT_d_bool, isT_d_list, isT_d_tuple, isT_d_str, bLines, bLaid, bPast, bnS_bn, bMeth0, isBn_bn, bMake, mMeth, bnAt_bn, dtAt_dt, sLaidApp, sPastApp, sDPutT, bDNew, sIfN, d_bn, d_dt, hideO_bn, hideO_dt, shO_bn, fSl_t, d_md, d_ol, d_ml, hideO_md, hideO_ol, hideO_ml2, clean_dt, clean_exc, mdS_md, mdN_md, mdN_mdn, bMLines, bMWeb, mOp, mIsi, mtVal, mtNot, mtOr, sIfT, mMeth0, sOlApp, mF])
def dd (l : List (List Int)) : List (List Int) := l.foldl dtPut []
theorem dd_snoc (l : List (List Int)) (r : List Int) : dd (l ++ [r]) = dtPut (dd l) r := by
  unfold dd
  rw [List.foldl_append]
  rfl
theorem dtPut_mem {ks : List (List Int)} {k r : List Int} : r ∈ dtPut ks k ↔ r ∈ ks ∨ r = k := by
  unfold dtPut
  split
  · rename_i h
    exact ⟨.inl, fun z => z.elim id fun z => by rw [z]; exact h⟩
  · rw [List.mem_append, List.mem_singleton]
theorem dd_mem {l : List (List Int)} {r : List Int} : r ∈ dd l ↔ r ∈ l := by
  have key : ∀ (l acc : List (List Int)), r ∈ l.foldl dtPut acc ↔ r ∈ acc ∨ r ∈ l := fun l => by
    induction l with
    | nil => intro acc; simp
    | cons x l ih =>
      intro acc
      rw [List.foldl_cons, ih, dtPut_mem, List.mem_cons, or_assoc]
  have := key l []
  unfold dd
  rw [this]
  simp
theorem dtPut_len (ks : List (List Int)) (k : List Int) : (dtPut ks k).length ≤ ks.length + 1 := by
  unfold dtPut
  split <;> simp
theorem dd_len (l : List (List Int)) : (dd l).length ≤ l.length := by
  have key : ∀ (l acc : List (List Int)), (l.foldl dtPut acc).length ≤ acc.length + l.length := fun l => by
    induction l with
    | nil => intro acc; simp
    | cons x l ih =>
      intro acc
      have := ih (dtPut acc x)
      have := dtPut_len acc x
      rw [List.foldl_cons, List.length_cons]
      omega
  have := key l []
  unfold dd
  simpa using this
def sp_put_through : SpD := fun ds Q => ∃ (rows : List (List Int)) (c : Nat × Nat), ds = [.lst (rows.map tupI), pr c] ∧ (∀ r ∈ rows, c.1 < r.length ∧ c.2 < r.length) ∧ rows.length ≤ 10000 ∧ Q (.ow ((dd (rows.map fun r => passed r c)).map tupI))
abbrev n_put_through : List Str := ["rows", "comparer", "found", "row"]
def dt_put_through : DS := sSeq (sAsg (.n 2) (mN bDNew)) (sSeq (sFor (biL (bV 0)) (.n 3) (sDPutT 2 (bCall sp_passed (baC (bV 3) (baC (bV 1) baN))))) (sShare 2 (sSeq (sRet (mN (bCall fListDT (baC (bV 2) baN)))) sNext)))

theorem l_put_through : ∀ ds Q, sp_put_through ds Q → ds.length = ["rows", "comparer"].length := by rintro ds Q ⟨_, _, rfl, _⟩; rfl
theorem d_put_through : ∀ ds Q, sp_put_through ds Q → dt_put_through (ends0 Q) (env0 n_put_through.length ds) := by
  rintro ds Q ⟨rows, c, rfl, hr, hl, hQ⟩
  show dt_put_through (ends0 Q) [some (.sh (.lst (rows.map tupI))), some (.sh (pr c)), none, none]
  unfold dt_put_through
  walk_at "dd"
  unfold sFor
  walk_at "dd"
  refine ⟨_, rows, tupI, fun ps env => ∃ x, env = [some (.sh (.lst (rows.map tupI))), some (.sh (pr c)), some (.dt (dd (ps.map fun r => passed r c))), x], rfl, ⟨_, rfl⟩, ?_, ?_⟩
  · rintro ps r qs env' hx ⟨x, rfl⟩
    obtain ⟨h1, h2⟩ := hr r (by rw [hx]; simp)
    have h3 := dd_len (ps.map fun r => passed r c)
    have h4 : ps.length ≤ rows.length := by rw [hx, List.length_append]; omega
    rw [List.length_map] at h3
    walk_at "dd"
    refine ⟨by omega, r, c, tupI r, rfl, .inr rfl, h1, h2, passed r c, rfl, some (.sh (tupI r)), ?_⟩
    rw [List.map_append, List.map_cons, List.map_nil, dd_snoc]
  · rintro env' ⟨x, rfl⟩
    walk_at "dd"
    exact ⟨_, rfl, hQ⟩
/-! ### the rows that come out, each once -/
def endsT (rows : List (List Int)) (c : Nat × Nat) : List (List Int) := dd (rows.map fun r => passed r c)
def endsL (n : Nat) (cs : List (Nat × Nat)) : List (List Int) := cs.foldl endsT (bareL n)
theorem endsL_snoc (n : Nat) (cs : List (Nat × Nat)) (c : Nat × Nat) : endsL n (cs ++ [c]) = endsT (endsL n cs) c := by
  unfold endsL
  rw [List.foldl_append]
  rfl
def pastD (n : Nat) (cs : List (Nat × Nat)) : List D := (List.range (cs.length + 1)).map fun k => .lst ((endsL n (cs.take k)).map tupI)
theorem pastD_snoc (n : Nat) (cs : List (Nat × Nat)) (c : Nat × Nat) : pastD n (cs ++ [c]) = pastD n cs ++ [.lst ((endsL n (cs ++ [c])).map tupI)] := by
  unfold pastD
  rw [List.length_append, List.length_singleton, List.range_succ, List.map_append, List.map_cons, List.map_nil, List.take_of_length_le (by simp)]
  congr 1
  refine List.map_congr_left fun k hk => ?_
  rw [List.take_append_of_le_length (by have := List.mem_range.mp hk; omega)]
theorem pastD_last (n : Nat) (cs : List (Nat × Nat)) : ∃ l, pastD n cs = l ++ [.lst ((endsL n cs).map tupI)] := by
  unfold pastD
  rw [List.range_succ, List.map_append, List.map_cons, List.map_nil, List.take_of_length_le (Nat.le_refl _)]
  exact ⟨_, rfl⟩
theorem endsL_ok {n : Nat} {cs : List (Nat × Nat)} : ∀ r ∈ endsL n cs, ∃ b ∈ bareL n, r = gone cs b := by
  have key : ∀ (k : Nat) (cs : List (Nat × Nat)), cs.length = k → ∀ r, r ∈ endsL n cs ↔ ∃ b ∈ bareL n, r = gone cs b := fun k => by
    induction k with
    | zero =>
      intro cs h r
      have : cs = [] := List.eq_nil_of_length_eq_zero h
      subst this
      exact ⟨fun m => ⟨r, m, rfl⟩, fun ⟨b, m, e⟩ => by rw [e]; exact m⟩
    | succ k ih =>
      intro cs h r
      obtain ⟨ps, c, rfl⟩ : ∃ ps c, cs = ps ++ [c] := ⟨cs.dropLast, cs.getLast (by intro z; subst z; cases h), (List.dropLast_concat_getLast _).symm⟩
      rw [endsL_snoc]
      unfold endsT
      rw [dd_mem, List.mem_map]
      have ih := ih ps (by simpa using h)
      constructor
      · rintro ⟨z, hz, rfl⟩
        obtain ⟨b, m, rfl⟩ := (ih z).mp hz
        exact ⟨b, m, by rw [gone_snoc]⟩
      · rintro ⟨b, m, rfl⟩
        exact ⟨gone ps b, (ih _).mpr ⟨b, m, rfl⟩, by rw [gone_snoc]⟩
  exact fun r m => (key _ cs rfl r).mp m
theorem passed_mem {row : List Int} {c : Nat × Nat} {P : Int → Prop} (h : ∀ x ∈ row, P x) (h1 : c.1 < row.length) (h2 : c.2 < row.length) : ∀ x ∈ passed row c, P x := by
  have g : ∀ i, i < row.length → P (row.getD i 0) := fun i hi => by
    rw [List.getD_eq_getElem?_getD, List.getElem?_eq_getElem hi]
    exact h _ (List.getElem_mem _)
  intro x m
  unfold passed at m
  split at m
  · rcases List.mem_or_eq_of_mem_set m with m | rfl
    · rcases List.mem_or_eq_of_mem_set m with m | rfl
      · exact h x m
      · exact g _ h2
    · exact g _ h1
  · exact h x m
theorem endsL_row {n : Nat} {cs : List (Nat × Nat)} (hc : ∀ c ∈ cs, c.1 < n ∧ c.2 < n) : ∀ r ∈ endsL n cs, r.length = n ∧ ∀ x ∈ r, x = 0 ∨ x = 1 := by
  intro r m
  obtain ⟨b, hb, rfl⟩ := endsL_ok r m
  obtain ⟨b1, b2⟩ := bareL_row n b hb
  refine ⟨by rw [gone_len]; exact b1, ?_⟩
  have key : ∀ (cs : List (Nat × Nat)) (b : List Int), (∀ c ∈ cs, c.1 < n ∧ c.2 < n) → b.length = n → (∀ x ∈ b, x = 0 ∨ x = 1) → ∀ x ∈ gone cs b, x = 0 ∨ x = 1 := fun cs => by
    induction cs with
    | nil => exact fun b _ _ h => h
    | cons c cs ih =>
      intro b hc hl h
      obtain ⟨c1, c2⟩ := hc c (by simp)
      exact ih (passed b c) (fun d m => hc d (List.mem_cons_of_mem _ m)) (by rw [passed_len]; exact hl) (passed_mem h (by omega) (by omega))
  exact key cs b hc b1 b2
theorem endsL_len {n : Nat} (hn : n ≤ 10) : ∀ cs : List (Nat × Nat), (endsL n cs).length ≤ 1024 := by
  have key : ∀ (k : Nat) (cs : List (Nat × Nat)), cs.length = k → (endsL n cs).length ≤ 1024 := fun k => by
    induction k with
    | zero =>
      intro cs h
      have : cs = [] := List.eq_nil_of_length_eq_zero h
      subst this
      show (bareL n).length ≤ 1024
      rw [bareL_len]
      exact Nat.pow_le_pow_right (by decide) hn
    | succ k ih =>
      intro cs h
      obtain ⟨ps, c, rfl⟩ : ∃ ps c, cs = ps ++ [c] := ⟨cs.dropLast, cs.getLast (by intro z; subst z; cases h), (List.dropLast_concat_getLast _).symm⟩
      rw [endsL_snoc]
      unfold endsT
      have := dd_len ((endsL n ps).map fun r => passed r c)
      rw [List.length_map] at this
      have := ih ps (by simpa using h)
      omega
  exact fun cs => key _ cs rfl
theorem fine_tups (rows : List (List Int)) : (D.lst (rows.map tupI)).fine 9 = true := by
  rw [fine_l]
  exact fines_map fun r _ => by
    show (D.tup (r.map .int)).fine 8 = true
    rw [fine_t]
    exact fines_map fun i _ => fine_i
/-! ### the bench -/
def sp_Bench_init : ISp := fun n Q => ∃ m : Nat, n = m ∧ 1 ≤ m ∧ m ≤ 10 ∧ Q [] (pastD m [])
abbrev n_Bench_init : List Str := ["self", "lines", "row"]
def dt_Bench_init (n : Int) (Q : List D → List D → Prop) : Prop := dInit 1 (bCall sp_need_lines (baC (bV 1) baN)) (bV 1) (bLst baN) (bLst (baC (bLc (biL (bCall sp_bare_rows (baC (bV 1) baN))) (.n 2) qYes (bCall fTuple (baC (bV 2) baN)) [2]) baN)) n Q

theorem d_Bench_init : ∀ n Q, sp_Bench_init n Q → dt_Bench_init n Q := by
  rintro _ Q ⟨m, rfl, h1, h10, hQ⟩
  unfold dt_Bench_init dInit envI
  simp only [List.replicate]
  walk_at "dd"
  refine ⟨m, rfl, h1, h10, by decide, [], rfl, ?_⟩
  unfold bLc
  walk_at "dd"
  refine ⟨m, rfl, h10, by rw [List.length_map, bareL_len]; exact Nat.le_trans (Nat.pow_le_pow_right (by decide) h10) (by decide), _, bareL m, intsD, fun r => some (tupI r), rfl, fun r _ => ?_, by decide, ?_⟩
  · walk_at "dd"
    rfl
  · rw [fm_some]
    exact ⟨_, rfl, hQ⟩
def stirB (m : Nat) (cs : List (Nat × Nat)) (c : Nat × Nat) : Bool := (endsL m cs).any fun r => decide (r.getD c.2 0 < r.getD c.1 0)
def sp_Bench_put : MSp := fun n laid past ds Q => ∃ (m : Nat) (cs : List (Nat × Nat)) (c : Nat × Nat), n = m ∧ laid = cs.map pr ∧ past = pastD m cs ∧ ds = [pr c] ∧ IsWeb m (cs ++ [c]) ∧ Q (.bl (stirB m cs c)) ((cs ++ [c]).map pr) (pastD m (cs ++ [c]))
abbrev n_Bench_put : List Str := ["self", "comparer", "rows", "is_stirred", "row"]
def dt_Bench_put : DS := sSeq (sIf (qOr (qNot (qVal (bCall sp_is_comparer (baC (bV 1) (baC (bLines (bV 0)) baN))))) (qVal (bOp fEq (bCall fLen (baC (bLaid (bV 0)) baN)) (bC (.int 60))))) sNever sNext) (sSeq (sAsg (.n 2) (mS (mA (bCall sp_put_through (baC (bOp fIx (bPast (bV 0)) (bNeg (bC (.int 1)))) (baC (bV 1) baN)))))) (sSeq (sAsg (.n 3) (mS (mA (bOp fNe (bLc (biL (bOp fIx (bPast (bV 0)) (bNeg (bC (.int 1))))) (.n 4) (qVal (bOp fGt (bOp fIx (bV 4) (bOp fIx (bV 1) (bC (.int 0)))) (bOp fIx (bV 4) (bOp fIx (bV 1) (bC (.int 1)))))) (bV 4) [4]) (bLst baN))))) (sSeq (sLaidApp 0 (bV 1)) (sSeq (sPastApp 0 (bV 2)) (sRet (mV 3))))))

theorem l_Bench_put : ∀ n l p ds Q, sp_Bench_put n l p ds Q → ds.length + 1 = ["self", "comparer"].length := by rintro n l p ds Q ⟨_, _, _, _, _, _, rfl, _⟩; rfl
theorem d_Bench_put : ∀ a n l p ds Q, sp_Bench_put n l p ds Q → dt_Bench_put (endsM a n Q) (some (.bn a n l p) :: env0 (n_Bench_put.length - 1) ds) := by
  rintro a n l p ds Q ⟨m, cs, c, rfl, rfl, rfl, rfl, hw, hQ⟩
  show dt_Bench_put (endsM a m Q) [some (.bn a m (cs.map pr) (pastD m cs)), some (.sh (pr c)), none, none, none]
  unfold dt_Bench_put
  walk_at "dd"
  obtain ⟨c1, c2, c3⟩ := hw.ok c (by simp)
  have hlen := hw.len
  rw [List.length_append, List.length_singleton] at hlen
  obtain ⟨L, hL⟩ := pastD_last m cs
  have hrow := endsL_row (n := m) (cs := cs) fun d md => by have := hw.ok d (List.mem_append_left _ md); exact ⟨this.1, this.2.1⟩
  have hel := endsL_len hw.hi cs
  have hpl : (pastD m cs).length < 100000 := by unfold pastD; rw [List.length_map, List.length_range]; omega
  refine ⟨pr c, m, rfl, tyOk_pr c, ?_⟩
  rw [cmpr_pr ⟨c1, c2, c3⟩]
  walk_at "dd"
  refine ⟨fun h => by have h := of_decide_eq_true h; rw [List.length_map] at h; omega, fun _ => ⟨.lst ((endsL m cs).map tupI), by rw [hL]; exact atI_last _ _, endsL m cs, c, rfl, fun r hr => by rw [(hrow r hr).1]; exact ⟨c1, c2⟩, by omega, ?_⟩⟩
  refine ⟨cleans_tups _, ?_⟩
  unfold bLc
  walk_at "dd"
  refine ⟨.lst ((endsL m cs).map tupI), by rw [hL]; exact atI_last _ _, ?_⟩
  dsimp only
  refine ⟨by rw [List.length_map]; omega, _, endsL m cs, tupI, fun r => if decide (r.getD c.2 0 < r.getD c.1 0) = true then some (tupI r) else none, rfl, fun r hr => ?_, by decide, ?_, by decide, by rw [List.length_map]; omega, hpl, _, rfl, ?_⟩
  · obtain ⟨r1, _⟩ := hrow r hr
    unfold tupI
    refine ⟨_, rfl, ?_⟩
    walk_at "dd"
    refine ⟨_, atI_int (by omega), _, rfl, ?_⟩
    walk_at "dd"
    refine ⟨_, atI_int (by omega), ?_⟩
    walk_at "dd"
    exact ⟨fun h => by rw [if_pos h], fun h => by rw [if_neg (by rw [h]; decide)]⟩
  · rw [fm_if (fun r : List Int => decide (r.getD c.2 0 < r.getD c.1 0)) tupI]
    exact fine_tups _
  · rw [fm_if (fun r : List Int => decide (r.getD c.2 0 < r.getD c.1 0)) tupI, deq_lnil]
    have e : (!(((endsL m cs).filter fun r => decide (r.getD c.2 0 < r.getD c.1 0)).map tupI).isEmpty) = stirB m cs c := by
      unfold stirB
      cases h : (endsL m cs).filter fun r => decide (r.getD c.2 0 < r.getD c.1 0) with
      | nil =>
        rw [List.filter_eq_nil_iff] at h
        symm
        rw [show (!(List.map tupI ([] : List (List Int))).isEmpty) = false from rfl, List.any_eq_false]
        exact fun x hx => h x hx
      | cons x l =>
        have hx : x ∈ (endsL m cs).filter fun r => decide (r.getD c.2 0 < r.getD c.1 0) := by rw [h]; simp
        rw [List.mem_filter] at hx
        symm
        rw [show (!(List.map tupI (x :: l)).isEmpty) = true from rfl, List.any_eq_true]
        exact ⟨x, hx⟩
    rw [e]
    rw [pastD_snoc, endsL_snoc, List.map_append] at hQ
    exact hQ
def sp_Bench_comparers : SpD := fun ds Q => ∃ (n : Int) (cs : List (Nat × Nat)) (past : List D), ds = [.bn n (cs.map pr) past] ∧ Q (.ow (cs.map pr))
abbrev n_Bench_comparers : List Str := ["self"]
def dt_Bench_comparers : DS := sRet (mN (bCall fList (baC (bLaid (bV 0)) baN)))

theorem l_Bench_comparers : ∀ ds Q, sp_Bench_comparers ds Q → ds.length = ["self"].length := by rintro ds Q ⟨_, _, _, rfl, _⟩; rfl
theorem d_Bench_comparers : ∀ ds Q, sp_Bench_comparers ds Q → dt_Bench_comparers (ends0 Q) (env0 n_Bench_comparers.length ds) := by
  rintro ds Q ⟨n, cs, past, rfl, hQ⟩
  show dt_Bench_comparers (ends0 Q) [some (.sh (.bn n (cs.map pr) past))]
  unfold dt_Bench_comparers
  walk_at "dd"
  exact hQ
def wildL (m : Nat) (cs : List (Nat × Nat)) : Option (List Int) := (srtT (endsL m cs)).find? fun r => !rising r
def wildT (m : Nat) (cs : List (Nat × Nat)) : T := match wildL m cs with
  | some r => .ow (r.map .int)
  | none => .sh .non
theorem rowB_of {m : Nat} {r : List Int} (h : r.length = m ∧ ∀ x ∈ r, x = 0 ∨ x = 1) : RowB m r := ⟨h.1, fun x hx => by rcases h.2 x hx with e | e <;> omega⟩
def sp_Bench_wild : SpD := fun ds Q => ∃ (m : Nat) (cs : List (Nat × Nat)) (laid : List D), ds = [.bn m laid (pastD m cs)] ∧ IsWeb m cs ∧ Q (wildT m cs)
abbrev n_Bench_wild : List Str := ["self", "row"]
def dt_Bench_wild : DS := sSeq (sFor (biL (bCall fSortTs (baC (bOp fIx (bPast (bV 0)) (bNeg (bC (.int 1)))) baN))) (.n 1) (sIf (qNot (qVal (bCall sp_is_rising (baC (bV 1) baN)))) (sRet (mN (bCall fList (baC (bV 1) baN)))) sNext)) (sRet (mN (bC .non)))

theorem l_Bench_wild : ∀ ds Q, sp_Bench_wild ds Q → ds.length = ["self"].length := by rintro ds Q ⟨_, _, _, rfl, _⟩; rfl
theorem d_Bench_wild : ∀ ds Q, sp_Bench_wild ds Q → dt_Bench_wild (ends0 Q) (env0 n_Bench_wild.length ds) := by
  rintro ds Q ⟨m, cs, laid, rfl, hw, hQ⟩
  show dt_Bench_wild (ends0 Q) [some (.sh (.bn m laid (pastD m cs))), none]
  have hrow := endsL_row (n := m) (cs := cs) fun d md => by have := hw.ok d md; exact ⟨this.1, this.2.1⟩
  have hm := hw.hi
  obtain ⟨L, hL⟩ := pastD_last m cs
  unfold dt_Bench_wild
  unfold sFor
  walk_at "dd"
  refine ⟨.lst ((endsL m cs).map tupI), by rw [hL]; exact atI_last _ _, m, hw.lo, endsL m cs, rfl, fun r hr => rowB_of (hrow r hr), ?_⟩
  walk_at "dd"
  have hsr : ∀ r ∈ srtT (endsL m cs), r.length = m := fun r hr => (hrow r ((srtT_perm _).mem_iff.mp hr)).1
  refine ⟨_, srtT (endsL m cs), tupI, fun ps env => (∀ q ∈ ps, (!rising q) = false) ∧ ∃ x, env = [some (.sh (.bn m laid (pastD m cs))), x], rfl, ⟨fun q hq => (by cases hq), _, rfl⟩, ?_, ?_⟩
  · rintro ps r qs env' hx ⟨hps, x, rfl⟩
    have hl := hsr r (by rw [hx]; simp)
    have h1 := hw.lo
    walk_at "dd"
    refine ⟨r, tupI r, rfl, .inr ⟨rfl, by omega⟩, by omega, ?_⟩
    walk_at "dd"
    refine ⟨fun h => ?_, fun h => ⟨fun q hq => ?_, _, rfl⟩⟩
    · have e : wildL m cs = some r := find_at hx hps h
      unfold wildT at hQ
      rw [e] at hQ
      exact hQ
    · rcases List.mem_append.mp hq with hq | hq
      · exact hps q hq
      · rw [List.mem_singleton] at hq
        rw [hq]
        exact h
  · rintro env' ⟨hps, x, rfl⟩
    have e : wildL m cs = none := List.find?_eq_none.mpr fun q hq => by rw [hps q hq]; simp
    unfold wildT at hQ
    rw [e] at hQ
    exact hQ
theorem enum_at {α : Type} {cs : List α} {ps qs : List (α × Nat)} {p : α × Nat} (h : cs.zipIdx = ps ++ p :: qs) : ∃ as bs, cs = as ++ p.1 :: bs ∧ as.length = ps.length ∧ as = ps.map (·.1) ∧ p.2 = ps.length := by
  have e : cs = ps.map (·.1) ++ p.1 :: qs.map (·.1) := by
    have := congrArg (List.map (·.1)) h
    rw [List.zipIdx_map_fst] at this
    simpa using this
  refine ⟨_, _, e, by simp, rfl, ?_⟩
  have h2 : cs.zipIdx[ps.length]? = some p := by rw [h, List.getElem?_append_right (Nat.le_refl _), Nat.sub_self]; rfl
  rw [List.getElem?_zipIdx] at h2
  obtain ⟨a, _, h3⟩ := Option.map_eq_some_iff.mp h2
  rw [← h3]
  simp
def idleB (n : Nat) (cs : List (Nat × Nat)) : List Nat := (List.range cs.length).filter fun k => !stirB n (cs.take k) (cs.getD k (0, 0))
theorem idleB_snoc (n : Nat) (cs : List (Nat × Nat)) (c : Nat × Nat) : idleB n (cs ++ [c]) = idleB n cs ++ if stirB n cs c = true then [] else [cs.length] := by
  unfold idleB
  rw [List.length_append, List.length_singleton, List.range_succ, List.filter_append]
  congr 1
  · refine List.filter_congr fun k hk => ?_
    have hk := List.mem_range.mp hk
    rw [List.take_append_of_le_length (by omega), List.getD_eq_getElem?_getD, List.getElem?_append_left hk, ← List.getD_eq_getElem?_getD]
  · rw [List.filter_cons, List.take_left', List.getD_eq_getElem?_getD, List.getElem?_append_right (Nat.le_refl _), Nat.sub_self]
    · show (if (!stirB n cs c) = true then [cs.length] else []) = _
      cases stirB n cs c <;> rfl
    · rfl
def sp__law_benched : SpD := fun ds Q => ∃ (n : Nat) (cs : List (Nat × Nat)), ds = [.int n, webD cs] ∧ IsWeb n cs ∧ ∀ a, Q (.tp [.bn a n (cs.map pr) (pastD n cs), .ow ((idleB n cs).map fun (k : Nat) => D.int (k : Int))])
abbrev n__law_benched : List Str := ["_law_lines", "_law_comparers", "_law_bench", "_law_idle", "_law_place", "_law_comparer_here"]
def dt__law_benched : DS := sSeq (sAsg (.n 2) (mN (bMake sp_Bench_init (bV 0)))) (sSeq (sAsg (.n 3) (mN (bLst baN))) (sSeq (sFor (biE (bV 1)) (.t [4, 5]) (sIfN (mMeth 2 sp_Bench_put (baC (bV 5) baN)) (sApp 3 (mN (bV 4))) sNext)) (sRet (mT2 (mV 2) (mV 3)))))

theorem l__law_benched : ∀ ds Q, sp__law_benched ds Q → ds.length = ["_law_lines", "_law_comparers"].length := by rintro ds Q ⟨_, _, rfl, _⟩; rfl
theorem d__law_benched : ∀ ds Q, sp__law_benched ds Q → dt__law_benched (ends0 Q) (env0 n__law_benched.length ds) := by
  rintro ds Q ⟨n, cs, rfl, hw, hQ⟩
  show dt__law_benched (ends0 Q) [some (.sh (.int n)), some (.sh (.lst (cs.map pr))), none, none, none, none]
  unfold dt__law_benched
  walk_at "dd"
  refine ⟨n, rfl, n, rfl, hw.lo, hw.hi, fun a => ?_⟩
  unfold sFor
  walk_at "dd"
  refine ⟨by decide, _, cs.zipIdx, fun p => .tup [.int p.2, pr p.1], fun ps env => ∃ x y, env = [some (.sh (.int n)), some (.sh (.lst (cs.map pr))), some (.bn a n ((ps.map (·.1)).map pr) (pastD n (ps.map (·.1)))), some (.ow ((idleB n (ps.map (·.1))).map fun (k : Nat) => D.int (k : Int))), x, y], enumF_map _ _ 0, ⟨_, _, rfl⟩, ?_, ?_⟩
  · rintro ps p qs env' hx ⟨x, y, rfl⟩
    obtain ⟨as, bs, e1, e2, e3, e4⟩ := enum_at hx
    obtain ⟨c, k⟩ := p
    dsimp only at e1 e4 ⊢
    subst e4
    rw [List.map_append, List.map_cons, List.map_nil, ← e3, ← e2]
    have hw2 : IsWeb n (as ++ [c]) := ⟨hw.lo, hw.hi, by have := hw.len; rw [e1, List.length_append, List.length_cons] at this; rw [List.length_append, List.length_singleton]; omega, fun d m => hw.ok d (by rw [e1]; rcases List.mem_append.mp m with m | m; exact List.mem_append_left _ m; exact List.mem_append_right _ (by rw [List.mem_singleton] at m; rw [m]; simp))⟩
    have hil : (idleB n as).length < 100000 := by
      have h1 := hw2.len
      rw [List.length_append, List.length_singleton] at h1
      unfold idleB
      have := List.length_filter_le (fun k => !stirB n (as.take k) (as.getD k (0, 0))) (List.range as.length)
      rw [List.length_range] at this
      omega
    walk_at "dd"
    refine ⟨n, as, c, rfl, rfl, rfl, rfl, hw2, ?_⟩
    rw [idleB_snoc]
    walk_at "dd"
    refine ⟨fun h => ?_, fun h => ?_⟩
    · have h2 : stirB n as c = false := by simpa using h
      rw [h2, if_neg (by decide), List.map_append (l₁ := idleB n as)]
      exact ⟨by rw [List.length_map]; exact hil, _, _, rfl⟩
    · have h2 : stirB n as c = true := by simpa using h
      rw [h2, if_pos rfl, List.append_nil]
      exact ⟨_, _, rfl⟩
  · rintro env' ⟨x, y, rfl⟩
    rw [List.zipIdx_map_fst]
    walk_at "dd"
    exact hQ a
end W

/-! KW: the law's word of a refusal (lines of K2A). -/
namespace W
open PySem L2
local macro_rules | `(tactic| walk_at "dd") => `(tactic| simp only [sRaise, sRaiseP, sCallX, sSetX, sTry, sTry2, sSeq, sAsg, sAsgG, sDrop, sRet, sRetN, sIf, sNext, sNever, sCont, sApp, sAppT, sIns, sPopAt, sShare, sAppAt, gT2, gX, mS, mN, mA, mT2, sPar3, bLz, qCh3, sPar, sExt, bLr1, bLr2, mPop, mPopAt, mIf, bCount, noIs_n, noIs_c, noI_i, noI_web, mkLst_d, mkTup_d, put_pr, fIx_pr, intsD, webD, mH, half_ows, half_ow, half_sh, half_lst1, half_lst1s, clean_lst1, sets_n, sets_c, List.map_cons, List.map_nil, bOp, bC_eq, bV0, bV1, mV0, mV1, fAdd_i, fAdd_l, fAdd_s, fAdd_t, fMul_i, fMul_l, fI0_eq, fI_eq, fIx_l, fIx_t, fIx_s, fEq_eq, fNe_eq, asB_eq, asI_eq, fLen_l, fLen_f, fLen_t, fLen_s, fList_l, fList_f, fList_t, fTuple_l, fTuple_t, fMax2_i, fMin2_i, fSl_l, fSl_f, fSl_s, fSlS_l, fSlS_t, isN_int, isN_str, isN_lst, isN_tup, isN_bl, isN_non, put_n, put_t2, put_p2, put_t3, d_sh, d_ow, d_tp, d_ows, ds_n, ds_c, hide_n, hide_cons, hideO_sh, hideO_ow, hideO_ows, hideO_tp, hideO_n, wipeE_n, wipeE_c, mkTup_0, mkTup_1, mkTup_2, mkTup_3, mkLst_0, mkLst_1, mkLst_2, mkLst_3, mkLst_4, isOw_ow, isOw_ows, shO_some, shO_none, clean_sh, clean_ow, clean_i, clean_b, clean_s, clean_n, clean_t, cleans_n, cleans_c, fine_i, fine_b, fine_n, deq_i, deq_b, deq_s, n0, n1, List.set_cons_zero, List.set_cons_succ, List.set_nil, Option.some.injEq, exists_eq_left', bCall, baC, baN, qVal, qAnd, qOr, qNot, qYes, bAnd, bOr, bNot, bCh, bIf, bTup, bLst, bSl, bSlS, boN, boS, bRev, bNeg, bIsi, biL, biT, bi1, bi2, bi3, biE, biZ, List.length_cons, List.length_nil, true_and, and_true, Bool.and_true, Bool.true_and, Bool.not_not, reduceCtorEq, false_implies, implies_true, true_implies, forall_const, Bool.not_true, Bool.not_false, Bool.false_or, Bool.true_or, Bool.or_false, Bool.or_true, Bool.and_false, Bool.false_and, tyN_i, isT_i_int, isT_i_bool, isT_i_list, isT_i_tuple, isT_i_str, tyN_b, isT_b_int, isT_b_bool, isT_b_list, isT_b_tuple, isT_b_str, tyN_n, isT_n_int, isT_n_bool, isT_n_list, isT_n_tuple, isT_n_str, tyN_s, isT_s_int, isT_s_bool, isT_s_list, isT_s_tuple, isT_s_str, tyN_l, isT_l_int, isT_l_bool, isT_l_list, isT_l_tuple, isT_l_str, tyN_t, isT_t_int, isT_t_bool, isT_t_list, isT_t_tuple, isT_t_str, tyN_f, isT_f_int, isT_f_bool, isT_f_list, isT_f_tuple, isT_f_str, fInt_i, fInt_b, bLenSet, bMeet, sSubA, tyN_d, isT_d_int, isT_d_bool, isT_d_list, isT_d_tuple, isT_d_str, bLines, bLaid, bPast, bnS_bn, bMeth0, isBn_bn, bMake, mMeth, bnAt_bn, dtAt_dt, sLaidApp, sPastApp, sDPutT, bDNew, sIfN, d_bn, d_dt, hideO_bn, hideO_dt, shO_bn, fSl_t, d_md, d_ol, d_ml, hideO_md, hideO_ol, hideO_ml2, clean_dt, clean_exc, mdS_md, mdN_md, mdN_mdn, bMLines, bMWeb, mOp, mIsi, mtVal, mtNot, mtOr, sIfT, mMeth0, sOlApp, mF])
theorem atI_head0 (d : D) (ds : List D) : atI (d :: ds) 0 = some d := by
  unfold atI
  rw [show (0 : Int) = ((0 : Nat) : Int) from rfl, ixN_nat (by simp)]
  rfl
def wordOf (c : Str) : Str := if c = "BadLines" then "lines" else if c = "BadWeb" then "web" else if c = "BadRow" then "row" else if c = "BadPlace" then "place" else if c = "BadOrder" then "order" else if c = "BadText" then "text" else "nothing"
def sevenX : List Str := ["BadLines", "BadWeb", "BadRow", "BadPlace", "BadOrder", "BadText", "NothingPut"]
def sp__law_word : SpD := fun ds Q => (ds = [.non] ∧ Q (.sh (.str ""))) ∨ ∃ c p, ds = [.exc c p] ∧ c ∈ sevenX ∧ Q (.sh (.str (wordOf c)))
abbrev n__law_word : List Str := ["_law_e", "_law_some", "_law_found", "_law_word_here", "_law_good"]
def dt__law_word : DS := sSeq (sAsg (.n 1) (mS (mN (bLst (baC (bTup (baC (bC (.str "lines")) (baC (bIsX [("BadLines", true), ("BadWeb", false), ("BadRow", false), ("BadPlace", false), ("BadOrder", false), ("BadText", false), ("NothingPut", false)] (bV 0)) baN))) (baC (bTup (baC (bC (.str "web")) (baC (bIsX [("BadLines", false), ("BadWeb", true), ("BadRow", false), ("BadPlace", false), ("BadOrder", false), ("BadText", false), ("NothingPut", false)] (bV 0)) baN))) (baC (bTup (baC (bC (.str "row")) (baC (bIsX [("BadLines", false), ("BadWeb", false), ("BadRow", true), ("BadPlace", false), ("BadOrder", false), ("BadText", false), ("NothingPut", false)] (bV 0)) baN))) baN))))))) (sSeq (sAsg (.n 1) (mS (mN (bOp fAdd (bV 1) (bLst (baC (bTup (baC (bC (.str "place")) (baC (bIsX [("BadLines", false), ("BadWeb", false), ("BadRow", false), ("BadPlace", true), ("BadOrder", false), ("BadText", false), ("NothingPut", false)] (bV 0)) baN))) (baC (bTup (baC (bC (.str "order")) (baC (bIsX [("BadLines", false), ("BadWeb", false), ("BadRow", false), ("BadPlace", false), ("BadOrder", true), ("BadText", false), ("NothingPut", false)] (bV 0)) baN))) baN))))))) (sSeq (sAsg (.n 1) (mS (mN (bOp fAdd (bV 1) (bLst (baC (bTup (baC (bC (.str "text")) (baC (bIsX [("BadLines", false), ("BadWeb", false), ("BadRow", false), ("BadPlace", false), ("BadOrder", false), ("BadText", true), ("NothingPut", false)] (bV 0)) baN))) (baC (bTup (baC (bC (.str "nothing")) (baC (bIsX [("BadLines", false), ("BadWeb", false), ("BadRow", false), ("BadPlace", false), ("BadOrder", false), ("BadText", false), ("NothingPut", true)] (bV 0)) baN))) baN))))))) (sSeq (sAsg (.n 2) (mS (mN (bLc (biL (bV 1)) (.t [3, 4]) (qVal (bV 4)) (bV 3) [3, 4])))) (sSeq (sIf (qVal (bOp (fIsN false) (bV 0) (bC .non))) (sRet (mN (bC (.str "")))) sNext) (sRet (mN (bIf (qAnd (qVal (bOp fEq (bCall fLen (baC (bV 2) baN)) (bC (.int 1)))) (qVal (bIsX [("BadLines", true), ("BadWeb", true), ("BadRow", true), ("BadPlace", true), ("BadOrder", true), ("BadText", true), ("NothingPut", true)] (bV 0)))) (bOp fIx (bV 2) (bC (.int 0))) (bC (.str "another")))))))))

theorem l__law_word : ∀ ds Q, sp__law_word ds Q → ds.length = ["_law_e"].length := by
  rintro ds Q (⟨rfl, _⟩ | ⟨_, _, rfl, _⟩) <;> rfl
theorem asX_n {tab : List (Str × Bool)} {Q : Bool → Prop} : D.non.asX tab Q = Q false := rfl
theorem asX_e {tab : List (Str × Bool)} {c : Str} {p : Option (Option Int)} {Q : Bool → Prop} : (D.exc c p).asX tab Q = ∃ b, catLookG tab c = some b ∧ Q b := rfl
theorem lk_BadLines : ∀ c ∈ sevenX, catLookG [("BadLines", true), ("BadWeb", false), ("BadRow", false), ("BadPlace", false), ("BadOrder", false), ("BadText", false), ("NothingPut", false)] c = some (decide (c = "BadLines")) := by decide +kernel
theorem lk_BadWeb : ∀ c ∈ sevenX, catLookG [("BadLines", false), ("BadWeb", true), ("BadRow", false), ("BadPlace", false), ("BadOrder", false), ("BadText", false), ("NothingPut", false)] c = some (decide (c = "BadWeb")) := by decide +kernel
theorem lk_BadRow : ∀ c ∈ sevenX, catLookG [("BadLines", false), ("BadWeb", false), ("BadRow", true), ("BadPlace", false), ("BadOrder", false), ("BadText", false), ("NothingPut", false)] c = some (decide (c = "BadRow")) := by decide +kernel
theorem lk_BadPlace : ∀ c ∈ sevenX, catLookG [("BadLines", false), ("BadWeb", false), ("BadRow", false), ("BadPlace", true), ("BadOrder", false), ("BadText", false), ("NothingPut", false)] c = some (decide (c = "BadPlace")) := by decide +kernel
theorem lk_BadOrder : ∀ c ∈ sevenX, catLookG [("BadLines", false), ("BadWeb", false), ("BadRow", false), ("BadPlace", false), ("BadOrder", true), ("BadText", false), ("NothingPut", false)] c = some (decide (c = "BadOrder")) := by decide +kernel
theorem lk_BadText : ∀ c ∈ sevenX, catLookG [("BadLines", false), ("BadWeb", false), ("BadRow", false), ("BadPlace", false), ("BadOrder", false), ("BadText", true), ("NothingPut", false)] c = some (decide (c = "BadText")) := by decide +kernel
theorem lk_NothingPut : ∀ c ∈ sevenX, catLookG [("BadLines", false), ("BadWeb", false), ("BadRow", false), ("BadPlace", false), ("BadOrder", false), ("BadText", false), ("NothingPut", true)] c = some (decide (c = "NothingPut")) := by decide +kernel
theorem lk_VE : ∀ c ∈ sevenX, catLookG [("BadLines", true), ("BadWeb", true), ("BadRow", true), ("BadPlace", true), ("BadOrder", true), ("BadText", true), ("NothingPut", true)] c = some true := by decide +kernel
def wordsP (c : Str) : List (Str × Bool) := [("lines", decide (c = "BadLines")), ("web", decide (c = "BadWeb")), ("row", decide (c = "BadRow")), ("place", decide (c = "BadPlace")), ("order", decide (c = "BadOrder")), ("text", decide (c = "BadText")), ("nothing", decide (c = "NothingPut"))]
theorem wordsP_one : ∀ c ∈ sevenX, ((wordsP c).filter (·.2)).map (·.1) = [wordOf c] := by decide +kernel
theorem wordsP_none : ((wordsP "").filter (·.2)).map (·.1) = [] := by decide +kernel
def wordD (p : Str × Bool) : D := .tup [.str p.1, .bl p.2]
theorem filt_words (ps : List (Str × Bool)) : ps.filterMap (fun p => if p.2 = true then some (D.str p.1) else none) = ((ps.filter (·.2)).map (·.1)).map D.str := by
  induction ps with
  | nil => rfl
  | cons p ps ih =>
    rw [List.filterMap_cons, List.filter_cons]
    cases h : p.2
    · simpa using ih
    · simpa using ih
theorem d__law_word : ∀ ds Q, sp__law_word ds Q → dt__law_word (ends0 Q) (env0 n__law_word.length ds) := by
  have comp : ∀ (e : T) (ps : List (Str × Bool)) (R : T → Prop), ps.length ≤ 50000 → R (.ow (((ps.filter (·.2)).map (·.1)).map D.str)) → bLc (biL (bV 1)) (Tg.t [3, 4]) (qVal (bV 4)) (bV 3) [3, 4] [some e, some (.sh (.lst (ps.map wordD))), none, none, none] R := fun e ps R hl h => by
    unfold bLc
    walk_at "dd"
    refine ⟨by rw [List.length_map]; exact hl, _, ps, wordD, fun p => if p.2 = true then some (.str p.1) else none, rfl, fun p _ => ⟨_, rfl, ?_⟩, by rw [filt_words]; exact h⟩
    walk_at "dd"
    refine ⟨fun h => by rw [if_pos h], fun h => by rw [if_neg (by rw [h]; decide)]⟩
  rintro ds Q (⟨rfl, hQ⟩ | ⟨c, p, rfl, hc, hQ⟩)
  · show dt__law_word (ends0 Q) [some (.sh .non), none, none, none, none]
    unfold dt__law_word bIsX
    walk_at "dd"
    simp only [asX_n]
    refine ⟨by decide, by decide, by decide, by decide, by decide, by decide, by decide, by decide, by decide, by decide, by decide, by simp, ?_⟩
    refine comp (.sh .non) (wordsP "") _ (by decide) ?_
    exact hQ
  · show dt__law_word (ends0 Q) [some (.sh (.exc c p)), none, none, none, none]
    unfold dt__law_word bIsX
    walk_at "dd"
    simp only [asX_e, lk_BadLines c hc, lk_BadWeb c hc, lk_BadRow c hc, lk_BadPlace c hc, lk_BadOrder c hc, lk_BadText c hc, lk_NothingPut c hc, lk_VE c hc, Option.some.injEq, exists_eq_left']
    refine ⟨by decide, by decide, by decide, by decide, by decide, by decide, by decide, by decide, by decide, by decide, by decide, by simp, ?_⟩
    refine comp (.sh (.exc c p)) (wordsP c) _ (by simp [wordsP]) ?_
    rw [wordsP_one c hc]
    rw [isN_exc]
    refine ⟨fun h => (by cases h), fun _ => ?_⟩
    show fLen [.lst [.str (wordOf c)]] _
    walk_at "dd"
    refine ⟨true, fun _ => rfl, .sh (.str (wordOf c)), fun _ => ⟨_, atI_head0 _ _, rfl⟩, fun h => (by cases h), hQ⟩
end W

/-! KB: a bench: many, take_back, and what is refused; the law's own try. -/
namespace W
open PySem L2
local macro_rules | `(tactic| walk_at "dd") => `(tactic| simp only [sRaise, sRaiseP, sCallX, sSetX, sTry, sTry2, sSeq, sAsg, sAsgG, sDrop, sRet, sRetN, sIf, sNext, sNever, sCont, sApp, sAppT, sIns, sPopAt, sShare, sAppAt, gT2, gX, mS, mN, mA, mT2, sPar3, bLz, qCh3, sPar, sExt, bLr1, bLr2, mPop, mPopAt, mIf, bCount, noIs_n, noIs_c, noI_i, noI_web, mkLst_d, mkTup_d, put_pr, fIx_pr, intsD, webD, mH, half_ows, half_ow, half_sh, half_lst1, half_lst1s, clean_lst1, sets_n, sets_c, List.map_cons, List.map_nil, bOp, bC_eq, bV0, bV1, mV0, mV1, fAdd_i, fAdd_l, fAdd_s, fAdd_t, fMul_i, fMul_l, fI0_eq, fI_eq, fIx_l, fIx_t, fIx_s, fEq_eq, fNe_eq, asB_eq, asI_eq, fLen_l, fLen_f, fLen_t, fLen_s, fList_l, fList_f, fList_t, fTuple_l, fTuple_t, fMax2_i, fMin2_i, fSl_l, fSl_f, fSl_s, fSlS_l, fSlS_t, isN_int, isN_str, isN_lst, isN_tup, isN_bl, isN_non, put_n, put_t2, put_p2, put_t3, d_sh, d_ow, d_tp, d_ows, ds_n, ds_c, hide_n, hide_cons, hideO_sh, hideO_ow, hideO_ows, hideO_tp, hideO_n, wipeE_n, wipeE_c, mkTup_0, mkTup_1, mkTup_2, mkTup_3, mkLst_0, mkLst_1, mkLst_2, mkLst_3, mkLst_4, isOw_ow, isOw_ows, shO_some, shO_none, clean_sh, clean_ow, clean_i, clean_b, clean_s, clean_n, clean_t, cleans_n, cleans_c, fine_i, fine_b, fine_n, deq_i, deq_b, deq_s, n0, n1, List.set_cons_zero, List.set_cons_succ, List.set_nil, Option.some.injEq, exists_eq_left', bCall, baC, baN, qVal, qAnd, qOr, qNot, qYes, bAnd, bOr, bNot, bCh, bIf, bTup, bLst, bSl, bSlS, boN, boS, bRev, bNeg, bIsi, biL, biT, bi1, bi2, bi3, biE, biZ, List.length_cons, List.length_nil, true_and, and_true, Bool.and_true, Bool.true_and, Bool.not_not, reduceCtorEq, false_implies, implies_true, true_implies, forall_const, Bool.not_true, Bool.not_false, Bool.false_or, Bool.true_or, Bool.or_false, Bool.or_true, Bool.and_false, Bool.false_and, tyN_i, isT_i_int, isT_i_bool, isT_i_list, isT_i_tuple, isT_i_str, tyN_b, isT_b_int, isT_b_bool, isT_b_list, isT_b_tuple, isT_b_str, tyN_n, isT_n_int, isT_n_bool, isT_n_list, isT_n_tuple, isT_n_str, tyN_s, isT_s_int, isT_s_bool, isT_s_list, isT_s_tuple, isT_s_str, tyN_l, isT_l_int, isT_l_bool, isT_l_list, isT_l_tuple, isT_l_str, tyN_t, isT_t_int, isT_t_bool, isT_t_list, isT_t_tuple, isT_t_str, tyN_f, isT_f_int, isT_f_bool, isT_f_list, isT_f_tuple, isT_f_str, fInt_i, fInt_b, bLenSet, bMeet, sSubA, tyN_d, isT_d_int, isT_d_bool, isT_d_list, isT_d_tuple, isT_d_str, bLines, bLaid, bPast, bnS_bn, bMeth0, isBn_bn, bMake, mMeth, bnAt_bn, dtAt_dt, sLaidApp, sPastApp, sDPutT, bDNew, sIfN, d_bn, d_dt, hideO_bn, hideO_dt, shO_bn, fSl_t, d_md, d_ol, d_ml, hideO_md, hideO_ol, hideO_ml2, clean_dt, clean_exc, mdS_md, mdN_md, mdN_mdn, bMLines, bMWeb, mOp, mIsi, mtVal, mtNot, mtOr, sIfT, mMeth0, sOlApp, mF])
def sp_Bench_many : SpD := fun ds Q => ∃ (m : Nat) (cs : List (Nat × Nat)) (laid : List D), ds = [.bn m laid (pastD m cs)] ∧ Q (.sh (.int (endsL m cs).length))
abbrev n_Bench_many : List Str := ["self"]
def dt_Bench_many : DS := sRet (mN (bCall fLen (baC (bOp fIx (bPast (bV 0)) (bNeg (bC (.int 1)))) baN)))

theorem l_Bench_many : ∀ ds Q, sp_Bench_many ds Q → ds.length = ["self"].length := by rintro ds Q ⟨_, _, _, rfl, _⟩; rfl
theorem d_Bench_many : ∀ ds Q, sp_Bench_many ds Q → dt_Bench_many (ends0 Q) (env0 n_Bench_many.length ds) := by
  rintro ds Q ⟨m, cs, laid, rfl, hQ⟩
  show dt_Bench_many (ends0 Q) [some (.sh (.bn m laid (pastD m cs)))]
  obtain ⟨L, hL⟩ := pastD_last m cs
  unfold dt_Bench_many
  walk_at "dd"
  refine ⟨.lst ((endsL m cs).map tupI), by rw [hL]; exact atI_last _ _, ?_⟩
  walk_at "dd"
  rw [List.length_map]
  exact hQ
def sp_Bench_take_back : MSp := fun n laid past ds Q => ∃ (m : Nat) (cs : List (Nat × Nat)) (c : Nat × Nat), n = m ∧ laid = (cs ++ [c]).map pr ∧ past = pastD m (cs ++ [c]) ∧ ds = [] ∧ Q (pr c) (cs.map pr) (pastD m cs)
abbrev n_Bench_take_back : List Str := ["self"]
def dt_Bench_take_back : DS := sSeq (sIf (qVal (bOp fEq (bLaid (bV 0)) (bLst baN))) sNever sNext) (sSeq (sDrop (mPastPop 0)) (sRet (mLaidPop 0)))

theorem l_Bench_take_back : ∀ n l p ds Q, sp_Bench_take_back n l p ds Q → ds.length + 1 = ["self"].length := by rintro n l p ds Q ⟨_, _, _, _, _, _, rfl, _⟩; rfl
theorem d_Bench_take_back : ∀ a n l p ds Q, sp_Bench_take_back n l p ds Q → dt_Bench_take_back (endsM a n Q) (some (.bn a n l p) :: env0 (n_Bench_take_back.length - 1) ds) := by
  rintro a n l p ds Q ⟨m, cs, c, rfl, rfl, rfl, rfl, hQ⟩
  show dt_Bench_take_back (endsM a m Q) [some (.bn a m ((cs ++ [c]).map pr) (pastD m (cs ++ [c])))]
  unfold dt_Bench_take_back
  walk_at "dd"
  have e : deq (.lst ((cs ++ [c]).map pr)) (.lst []) = false := by
    rw [deq_lnil]
    simp
  refine ⟨by decide, fine_web (cs ++ [c]) 7, rfl, fun h => ?_, fun _ => ?_⟩
  · rw [e] at h
    cases h
  · unfold mPastPop mLaidPop
    walk_at "dd"
    exact ⟨_, _, pastD_snoc m cs c, cs.map pr, pr c, by rw [List.map_append]; rfl, _, rfl, hQ⟩
/-! ### what is refused -/
def spb_Bench_put : SpX := fun ds _ E => ∃ (m : Nat) (cs : List (Nat × Nat)) (past : List D) (d : D), ds = [.bn m (cs.map pr) past, d] ∧ d.tyOk ∧ (d.cmpr m = false ∨ cs.length = 60) ∧ E ⟨"BadWeb", some .non⟩
def dtb_Bench_put : DS := sSeq (sIf (qOr (qNot (qVal (bCall sp_is_comparer (baC (bV 1) (baC (bLines (bV 0)) baN))))) (qVal (bOp fEq (bCall fLen (baC (bLaid (bV 0)) baN)) (bC (.int 60))))) (sRaiseP "BadWeb" (bC .non)) sNext) sNever

theorem lb_Bench_put : ∀ ds Q E, spb_Bench_put ds Q E → ds.length = ["self", "comparer"].length := by rintro ds Q E ⟨_, _, _, _, rfl, _⟩; rfl
theorem db_Bench_put : ∀ ds Q E, spb_Bench_put ds Q E → dtb_Bench_put (endsX Q E) (env0 n_Bench_put.length ds) := by
  rintro ds Q E ⟨m, cs, past, d, rfl, hd, hb, hE⟩
  show dtb_Bench_put (endsX Q E) [some (.sh (.bn m (cs.map pr) past)), some (.sh d), none, none, none]
  unfold dtb_Bench_put
  walk_at "dd"
  refine ⟨d, m, rfl, hd, ?_⟩
  walk_at "dd"
  refine ⟨decide ((cs.length : Int) = 60), fun _ => ?_, fun h => ?_, fun h => ?_⟩
  · rw [List.length_map]
  · exact ⟨trivial, hE⟩
  · rcases hb with hb | hb
    · rw [hb] at h
      cases h
    · rw [hb] at h
      simp at h
def spb_Bench_take_back : SpX := fun ds _ E => ∃ (n : Int) (past : List D), ds = [.bn n [] past] ∧ E ⟨"NothingPut", none⟩
def dtb_Bench_take_back : DS := sSeq (sIf (qVal (bOp fEq (bLaid (bV 0)) (bLst baN))) (sRaise "NothingPut") sNext) sNever

theorem lb_Bench_take_back : ∀ ds Q E, spb_Bench_take_back ds Q E → ds.length = ["self"].length := by rintro ds Q E ⟨_, _, rfl, _⟩; rfl
theorem db_Bench_take_back : ∀ ds Q E, spb_Bench_take_back ds Q E → dtb_Bench_take_back (endsX Q E) (env0 n_Bench_take_back.length ds) := by
  rintro ds Q E ⟨n, past, rfl, hE⟩
  show dtb_Bench_take_back (endsX Q E) [some (.sh (.bn n [] past))]
  unfold dtb_Bench_take_back
  walk_at "dd"
  refine ⟨by decide, rfl, rfl, fun _ => hE, fun h => ?_⟩
  rw [deq_rfl] at h
  cases h
def catE (Q : T → Prop) (xn : Xn) : Prop := match catLook [("BadLines", true), ("BadWeb", true), ("BadRow", true), ("BadPlace", true), ("BadOrder", true), ("BadText", true), ("NothingPut", true)] xn.c with
  | some true => Q (.sh (excD xn))
  | some false => False
  | none => False
theorem catE_of {Q : T → Prop} {x : Xn} (hc : x.c ∈ sevenX) (h : Q (.sh (excD x))) : catE Q x := by
  have e : ∀ c ∈ sevenX, catLook [("BadLines", true), ("BadWeb", true), ("BadRow", true), ("BadPlace", true), ("BadOrder", true), ("BadText", true), ("NothingPut", true)] c = some true := by decide +kernel
  unfold catE
  rw [e _ hc]
  exact h
abbrev badD : D := .exc "BadWeb" (some none)
abbrev nonD : D := .exc "NothingPut" none
def sp__law_tried : SpD := fun ds Q => (∃ (m : Nat) (cs : List (Nat × Nat)) (past : List D) (d : D), ds = [.bn m (cs.map pr) past, d] ∧ d.tyOk ∧ d ≠ .non ∧ (d.cmpr m = false ∨ cs.length = 60) ∧ Q (.sh badD)) ∨ ∃ (n : Int) (past : List D), ds = [.bn n [] past, .non] ∧ Q (.sh nonD)
abbrev n__law_tried : List Str := ["_law_bench", "_law_thing", "_law_found", "_law_e"]
def dt__law_tried : DS := sSeq (sAsg (.n 2) (mS (mN (bC .non)))) (sSeq (sTryAs (sIf (qVal (bOp (fIsN false) (bV 1) (bC .non))) (sMethX0 spb_Bench_take_back (bV 0)) (sMethX spb_Bench_put (bV 0) (baC (bV 1) baN))) [("BadLines", true), ("BadWeb", true), ("BadRow", true), ("BadPlace", true), ("BadOrder", true), ("BadText", true), ("NothingPut", true)] 3 (sAsg (.n 2) (mS (mN (bV 3))))) (sRet (mV 2)))

theorem l__law_tried : ∀ ds Q, sp__law_tried ds Q → ds.length = ["_law_bench", "_law_thing"].length := by
  rintro ds Q (⟨_, _, _, _, rfl, _⟩ | ⟨_, _, rfl, _⟩) <;> rfl
theorem isN_no {d : D} (h : d ≠ .non) (ht : d.ty ≠ "") (Q : T → Prop) (hq : Q (.sh (.bl false))) : fIsN false d .non Q := by
  cases d <;> first | exact hq | exact absurd rfl h | exact absurd rfl ht
theorem d__law_tried : ∀ ds Q, sp__law_tried ds Q → dt__law_tried (ends0 Q) (env0 n__law_tried.length ds) := by
  rintro ds Q (⟨m, cs, past, d, rfl, hd, hn, hb, hQ⟩ | ⟨n, past, rfl, hQ⟩)
  · show dt__law_tried (ends0 Q) [some (.sh (.bn m (cs.map pr) past)), some (.sh d), none, none]
    unfold dt__law_tried
    unfold sTryAs sMethX sMethX0
    walk_at "dd"
    refine isN_no hn hd.1 _ ⟨fun h => (by cases h), fun _ => ⟨m, cs, past, d, rfl, hd, hb, ?_⟩⟩
    exact catE_of (Q := Q) (x := ⟨"BadWeb", some .non⟩) (by decide +kernel) hQ
  · show dt__law_tried (ends0 Q) [some (.sh (.bn n [] past)), some (.sh .non), none, none]
    unfold dt__law_tried
    unfold sTryAs sMethX sMethX0
    walk_at "dd"
    refine ⟨n, past, rfl, ?_⟩
    exact catE_of (Q := Q) (x := ⟨"NothingPut", none⟩) (by decide +kernel) hQ
end W

/-! KC: the unlike rows that come out, by the law's own going (k11). -/
namespace W
open PySem L2
local macro_rules | `(tactic| walk_at "dd") => `(tactic| simp only [sRaise, sRaiseP, sCallX, sSetX, sTry, sTry2, sSeq, sAsg, sAsgG, sDrop, sRet, sRetN, sIf, sNext, sNever, sCont, sApp, sAppT, sIns, sPopAt, sShare, sAppAt, gT2, gX, mS, mN, mA, mT2, sPar3, bLz, qCh3, sPar, sExt, bLr1, bLr2, mPop, mPopAt, mIf, bCount, noIs_n, noIs_c, noI_i, noI_web, mkLst_d, mkTup_d, put_pr, fIx_pr, intsD, webD, mH, half_ows, half_ow, half_sh, half_lst1, half_lst1s, clean_lst1, sets_n, sets_c, List.map_cons, List.map_nil, bOp, bC_eq, bV0, bV1, mV0, mV1, fAdd_i, fAdd_l, fAdd_s, fAdd_t, fMul_i, fMul_l, fI0_eq, fI_eq, fIx_l, fIx_t, fIx_s, fEq_eq, fNe_eq, asB_eq, asI_eq, fLen_l, fLen_f, fLen_t, fLen_s, fList_l, fList_f, fList_t, fTuple_l, fTuple_t, fMax2_i, fMin2_i, fSl_l, fSl_f, fSl_s, fSlS_l, fSlS_t, isN_int, isN_str, isN_lst, isN_tup, isN_bl, isN_non, put_n, put_t2, put_p2, put_t3, d_sh, d_ow, d_tp, d_ows, ds_n, ds_c, hide_n, hide_cons, hideO_sh, hideO_ow, hideO_ows, hideO_tp, hideO_n, wipeE_n, wipeE_c, mkTup_0, mkTup_1, mkTup_2, mkTup_3, mkLst_0, mkLst_1, mkLst_2, mkLst_3, mkLst_4, isOw_ow, isOw_ows, shO_some, shO_none, clean_sh, clean_ow, clean_i, clean_b, clean_s, clean_n, clean_t, cleans_n, cleans_c, fine_i, fine_b, fine_n, deq_i, deq_b, deq_s, n0, n1, List.set_cons_zero, List.set_cons_succ, List.set_nil, Option.some.injEq, exists_eq_left', bCall, baC, baN, qVal, qAnd, qOr, qNot, qYes, bAnd, bOr, bNot, bCh, bIf, bTup, bLst, bSl, bSlS, boN, boS, bRev, bNeg, bIsi, biL, biT, bi1, bi2, bi3, biE, biZ, List.length_cons, List.length_nil, true_and, and_true, Bool.and_true, Bool.true_and, Bool.not_not, reduceCtorEq, false_implies, implies_true, true_implies, forall_const, Bool.not_true, Bool.not_false, Bool.false_or, Bool.true_or, Bool.or_false, Bool.or_true, Bool.and_false, Bool.false_and, tyN_i, isT_i_int, isT_i_bool, isT_i_list, isT_i_tuple, isT_i_str, tyN_b, isT_b_int, isT_b_bool, isT_b_list, isT_b_tuple, isT_b_str, tyN_n, isT_n_int, isT_n_bool, isT_n_list, isT_n_tuple, isT_n_str, tyN_s, isT_s_int, isT_s_bool, isT_s_list, isT_s_tuple, isT_s_str, tyN_l, isT_l_int, isT_l_bool, isT_l_list, isT_l_tuple, isT_l_str, tyN_t, isT_t_int, isT_t_bool, isT_t_list, isT_t_tuple, isT_t_str, tyN_f, isT_f_int, isT_f_bool, isT_f_list, isT_f_tuple, isT_f_str, fInt_i, fInt_b, bLenSet, bMeet, sSubA, tyN_d, isT_d_int, isT_d_bool, isT_d_list, isT_d_tuple, isT_d_str, bLines, bLaid, bPast, bnS_bn, bMeth0, isBn_bn, bMake, mMeth, bnAt_bn, dtAt_dt, sLaidApp, sPastApp, sDPutT, bDNew, sIfN, d_bn, d_dt, hideO_bn, hideO_dt, shO_bn, fSl_t, d_md, d_ol, d_ml, hideO_md, hideO_ol, hideO_ml2, clean_dt, clean_exc, mdS_md, mdN_md, mdN_mdn, bMLines, bMWeb, mOp, mIsi, mtVal, mtNot, mtOr, sIfT, mMeth0, sOlApp, mF])
theorem dtPut_nodup {ks : List (List Int)} {k : List Int} (h : ks.Nodup) : (dtPut ks k).Nodup := by
  unfold dtPut
  split
  · exact h
  · rename_i n
    exact List.nodup_append.mpr ⟨h, by simp, fun a m b m2 z => by
      rw [List.mem_singleton] at m2
      subst m2
      subst z
      exact n m⟩
theorem dd_nodup (l : List (List Int)) : (dd l).Nodup := by
  have key : ∀ (l acc : List (List Int)), acc.Nodup → (l.foldl dtPut acc).Nodup := fun l => by
    induction l with
    | nil => exact fun acc h => h
    | cons x l ih => exact fun acc h => ih _ (dtPut_nodup h)
  exact key l [] List.nodup_nil
theorem bareL_nodup : ∀ n, (bareL n).Nodup
  | 0 => by simp [bareL]
  | n + 1 => by
    have ih := bareL_nodup n
    rw [bareL]
    have one : ∀ b : Int, ((bareL n).map (· ++ [b])).Nodup := fun b => List.pairwise_map.mpr (ih.imp fun {x y} h z => h (List.append_cancel_right z))
    refine List.nodup_append.mpr ⟨one 0, one 1, fun x m y m2 z => ?_⟩
    obtain ⟨p, _, rfl⟩ := List.mem_map.mp m
    obtain ⟨q, _, rfl⟩ := List.mem_map.mp m2
    have := (List.append_inj' z rfl).2
    cases this
theorem endsL_nodup (n : Nat) (cs : List (Nat × Nat)) : (endsL n cs).Nodup := by
  rcases List.eq_nil_or_concat cs with rfl | ⟨ps, c, rfl⟩
  · exact bareL_nodup n
  · rw [List.concat_eq_append, endsL_snoc]
    exact dd_nodup _
theorem ends_iff {n : Nat} {cs : List (Nat × Nat)} {r : List Int} : r ∈ endsL n cs ↔ ∃ b ∈ bareL n, r = gone cs b := by
  have key : ∀ (k : Nat) (cs : List (Nat × Nat)), cs.length = k → ∀ r, r ∈ endsL n cs ↔ ∃ b ∈ bareL n, r = gone cs b := fun k => by
    induction k with
    | zero =>
      intro cs h r
      have : cs = [] := List.eq_nil_of_length_eq_zero h
      subst this
      exact ⟨fun m => ⟨r, m, rfl⟩, fun ⟨b, m, e⟩ => by rw [e]; exact m⟩
    | succ k ih =>
      intro cs h r
      obtain ⟨ps, c, rfl⟩ : ∃ ps c, cs = ps ++ [c] := ⟨cs.dropLast, cs.getLast (by intro z; subst z; cases h), (List.dropLast_concat_getLast _).symm⟩
      rw [endsL_snoc]
      unfold endsT
      rw [dd_mem, List.mem_map]
      have ih := ih ps (by simpa using h)
      constructor
      · rintro ⟨z, hz, rfl⟩
        obtain ⟨b, m, rfl⟩ := (ih z).mp hz
        exact ⟨b, m, by rw [gone_snoc]⟩
      · rintro ⟨b, m, rfl⟩
        exact ⟨gone ps b, (ih _).mpr ⟨b, m, rfl⟩, by rw [gone_snoc]⟩
  exact key _ cs rfl r
/-- what comes out, by the law's own going -/
def rowsE (n : Nat) (cs : List (Nat × Nat)) : List (List Int) := dd ((bareB n).map (gone cs))
theorem rowsE_iff {n : Nat} {cs : List (Nat × Nat)} {r : List Int} : r ∈ rowsE n cs ↔ r ∈ endsL n cs := by
  unfold rowsE
  rw [dd_mem, List.mem_map, ends_iff]
  exact ⟨fun ⟨b, m, e⟩ => ⟨b, bare_iff.mp m, e.symm⟩, fun ⟨b, m, e⟩ => ⟨b, bare_iff.mpr m, e.symm⟩⟩
theorem rowsE_len (n : Nat) (cs : List (Nat × Nat)) : (rowsE n cs).length = (endsL n cs).length :=
  ((List.perm_ext_iff_of_nodup (dd_nodup _) (endsL_nodup n cs)).mpr fun _ => rowsE_iff).length_eq
theorem rowsE_row {n : Nat} {cs : List (Nat × Nat)} (hw : IsWeb n cs) {r : List Int} (m : r ∈ rowsE n cs) : r.length = n ∧ ∀ x ∈ r, x = 0 ∨ x = 1 :=
  endsL_row (fun c hc => ⟨(hw.ok c hc).1, (hw.ok c hc).2.1⟩) r (rowsE_iff.mp m)
theorem rowsE_few {n : Nat} {cs : List (Nat × Nat)} (hw : IsWeb n cs) : (rowsE n cs).length ≤ 1024 := by
  rw [rowsE_len]
  exact endsL_len hw.hi cs
def sp__law_ends : SpD := fun ds Q => ∃ (n : Nat) (cs : List (Nat × Nat)), ds = [.int n, webD cs] ∧ IsWeb n cs ∧ Q (.dt (rowsE n cs))
abbrev n__law_ends : List Str := ["_law_lines", "_law_comparers", "_law_found", "_law_row"]
def dt__law_ends : DS := sSeq (sAsg (.n 2) (mN bDNew)) (sSeq (sFor (biL (bCall sp__law_bare (baC (bV 0) baN))) (.n 3) (sDPutT 2 (bCall sp__law_gone (baC (bV 1) (baC (bV 3) baN))))) (sRet (mV 2)))

theorem l__law_ends : ∀ ds Q, sp__law_ends ds Q → ds.length = ["_law_lines", "_law_comparers"].length := by rintro ds Q ⟨_, _, rfl, _⟩; rfl
theorem d__law_ends : ∀ ds Q, sp__law_ends ds Q → dt__law_ends (ends0 Q) (env0 n__law_ends.length ds) := by
  rintro ds Q ⟨n, cs, rfl, hw, hQ⟩
  show dt__law_ends (ends0 Q) [some (.sh (.int n)), some (.sh (.lst (cs.map pr))), none, none]
  have hb := bare_bound hw.hi
  unfold dt__law_ends
  unfold sFor
  walk_at "dd"
  refine ⟨n, rfl, hw.hi, ?_⟩
  walk_at "dd"
  refine ⟨_, bareB n, intsD, fun ps env => ∃ x, env = [some (.sh (.int n)), some (.sh (.lst (cs.map pr))), some (.dt (dd (ps.map (gone cs)))), x], rfl, ⟨_, rfl⟩, ?_, ?_⟩
  · rintro ps r qs env' hx ⟨x, rfl⟩
    have hr := bareB_row (n := n) (r := r) (by rw [hx]; simp)
    have h3 := dd_len (ps.map (gone cs))
    rw [List.length_map] at h3
    have h4 : ps.length ≤ (bareB n).length := by rw [hx, List.length_append]; omega
    walk_at "dd"
    refine ⟨by omega, cs, r, rfl, by rw [hr.1]; exact hw.fits, gone cs r, rfl, some (.sh (intsD r)), ?_⟩
    rw [List.map_append, List.map_cons, List.map_nil, dd_snoc]
    rfl
  · rintro env' ⟨x, rfl⟩
    walk_at "dd"
    exact hQ
theorem wild_some {n : Nat} {cs : List (Nat × Nat)} {r : List Int} (h : wildL n cs = some r) : r ∈ rowsE n cs ∧ rising r = false := by
  unfold wildL at h
  refine ⟨rowsE_iff.mpr ((srtT_perm _).mem_iff.mp (List.mem_of_find?_eq_some h)), ?_⟩
  have := List.find?_some h
  simpa using this
theorem wild_none {n : Nat} {cs : List (Nat × Nat)} (h : wildL n cs = none) {r : List Int} (m : r ∈ rowsE n cs) : rising r = true := by
  unfold wildL at h
  rw [List.find?_eq_none] at h
  have := h r ((srtT_perm _).mem_iff.mpr (rowsE_iff.mp m))
  simpa using this
theorem stirB_rows {n : Nat} {cs : List (Nat × Nat)} {c : Nat × Nat} : (!((rowsE n cs).filter fun r => decide (r.getD c.2 0 < r.getD c.1 0)).isEmpty) = stirB n cs c := by
  unfold stirB
  rw [Bool.eq_iff_iff, List.any_eq_true]
  constructor
  · intro h
    cases e : (rowsE n cs).filter fun r => decide (r.getD c.2 0 < r.getD c.1 0) with
    | nil => rw [e] at h; cases h
    | cons x l =>
      have hx : x ∈ (rowsE n cs).filter fun r => decide (r.getD c.2 0 < r.getD c.1 0) := by rw [e]; simp
      rw [List.mem_filter] at hx
      exact ⟨x, rowsE_iff.mp hx.1, hx.2⟩
  · rintro ⟨x, hx, h⟩
    have hx : x ∈ (rowsE n cs).filter fun r => decide (r.getD c.2 0 < r.getD c.1 0) := List.mem_filter.mpr ⟨rowsE_iff.mpr hx, h⟩
    cases e : (rowsE n cs).filter fun r => decide (r.getD c.2 0 < r.getD c.1 0) with
    | nil => rw [e] at hx; cases hx
    | cons x l => rfl
theorem pr00 : D.tup [.int 0, .int 0] = pr (0, 0) := rfl
theorem cmpr00 (m : Nat) : (pr (0, 0)).cmpr m = false := by
  show ((D.int 0).among 0 (m - 1) && (D.int 0).among 0 (m - 1) && !deq (.int 0) (.int 0)) = false
  rw [deq_i]
  simp
theorem word_web : wordOf "BadWeb" = "web" := by decide +kernel
theorem word_nothing : wordOf "NothingPut" = "nothing" := by decide +kernel
theorem IsWeb.part {m : Nat} {cs ps qs : List (Nat × Nat)} {c : Nat × Nat} (h : IsWeb m cs) (e : cs = ps ++ c :: qs) : IsWeb m (ps ++ [c]) := by
  subst e
  refine ⟨h.lo, h.hi, ?_, fun d hd => h.ok d ?_⟩
  · have := h.len
    rw [List.length_append, List.length_cons] at this
    rw [List.length_append, List.length_singleton]
    omega
  · rcases List.mem_append.mp hd with hd | hd
    · exact List.mem_append_left _ hd
    · rw [List.mem_singleton] at hd
      rw [hd]
      simp
end W

/-! KD: what a bench is asked behind each deed (k11). -/
namespace W
open PySem L2
local macro_rules | `(tactic| walk_at "dd") => `(tactic| simp only [sRaise, sRaiseP, sCallX, sSetX, sTry, sTry2, sSeq, sAsg, sAsgG, sDrop, sRet, sRetN, sIf, sNext, sNever, sCont, sApp, sAppT, sIns, sPopAt, sShare, sAppAt, gT2, gX, mS, mN, mA, mT2, sPar3, bLz, qCh3, sPar, sExt, bLr1, bLr2, mPop, mPopAt, mIf, bCount, noIs_n, noIs_c, noI_i, noI_web, mkLst_d, mkTup_d, put_pr, fIx_pr, intsD, webD, mH, half_ows, half_ow, half_sh, half_lst1, half_lst1s, clean_lst1, sets_n, sets_c, List.map_cons, List.map_nil, bOp, bC_eq, bV0, bV1, mV0, mV1, fAdd_i, fAdd_l, fAdd_s, fAdd_t, fMul_i, fMul_l, fI0_eq, fI_eq, fIx_l, fIx_t, fIx_s, fEq_eq, fNe_eq, asB_eq, asI_eq, fLen_l, fLen_f, fLen_t, fLen_s, fList_l, fList_f, fList_t, fTuple_l, fTuple_t, fMax2_i, fMin2_i, fSl_l, fSl_f, fSl_s, fSlS_l, fSlS_t, isN_int, isN_str, isN_lst, isN_tup, isN_bl, isN_non, put_n, put_t2, put_p2, put_t3, d_sh, d_ow, d_tp, d_ows, ds_n, ds_c, hide_n, hide_cons, hideO_sh, hideO_ow, hideO_ows, hideO_tp, hideO_n, wipeE_n, wipeE_c, mkTup_0, mkTup_1, mkTup_2, mkTup_3, mkLst_0, mkLst_1, mkLst_2, mkLst_3, mkLst_4, isOw_ow, isOw_ows, shO_some, shO_none, clean_sh, clean_ow, clean_i, clean_b, clean_s, clean_n, clean_t, cleans_n, cleans_c, fine_i, fine_b, fine_n, deq_i, deq_b, deq_s, n0, n1, List.set_cons_zero, List.set_cons_succ, List.set_nil, Option.some.injEq, exists_eq_left', bCall, baC, baN, qVal, qAnd, qOr, qNot, qYes, bAnd, bOr, bNot, bCh, bIf, bTup, bLst, bSl, bSlS, boN, boS, bRev, bNeg, bIsi, biL, biT, bi1, bi2, bi3, biE, biZ, List.length_cons, List.length_nil, true_and, and_true, Bool.and_true, Bool.true_and, Bool.not_not, reduceCtorEq, false_implies, implies_true, true_implies, forall_const, Bool.not_true, Bool.not_false, Bool.false_or, Bool.true_or, Bool.or_false, Bool.or_true, Bool.and_false, Bool.false_and, tyN_i, isT_i_int, isT_i_bool, isT_i_list, isT_i_tuple, isT_i_str, tyN_b, isT_b_int, isT_b_bool, isT_b_list, isT_b_tuple, isT_b_str, tyN_n, isT_n_int, isT_n_bool, isT_n_list, isT_n_tuple, isT_n_str, tyN_s, isT_s_int, isT_s_bool, isT_s_list, isT_s_tuple, isT_s_str, tyN_l, isT_l_int, isT_l_bool, isT_l_list, isT_l_tuple, isT_l_str, tyN_t, isT_t_int, isT_t_bool, isT_t_list, isT_t_tuple, isT_t_str, tyN_f, isT_f_int, isT_f_bool, isT_f_list, isT_f_tuple, isT_f_str, fInt_i, fInt_b, bLenSet, bMeet, sSubA, tyN_d, isT_d_int, isT_d_bool, isT_d_list, isT_d_tuple, isT_d_str, bLines, bLaid, bPast, bnS_bn, bMeth0, isBn_bn, bMake, mMeth, bnAt_bn, dtAt_dt, sLaidApp, sPastApp, sDPutT, bDNew, sIfN, d_bn, d_dt, hideO_bn, hideO_dt, shO_bn, fSl_t, d_md, d_ol, d_ml, hideO_md, hideO_ol, hideO_ml2, clean_dt, clean_exc, mdS_md, mdN_md, mdN_mdn, bMLines, bMWeb, mOp, mIsi, mtVal, mtNot, mtOr, sIfT, mMeth0, sOlApp, mF])
/-- a held pair: what was told and what was due, alike -/
def heldD (x : List (Nat × Nat)) : D := .tup [webD x, webD x]
def spp__law_asked : SpP := fun ts Q => ∃ (a : Addr) (m : Nat) (cs : List (Nat × Nat)) (b : Addr) (k : Int) (c : Addr) (hs : List (List (Nat × Nat))),
  ts = [.bn a m (cs.map pr) (pastD m cs), .md b m (cs.map pr), .sh (.int k), .ol c (hs.map heldD)] ∧ IsWeb m cs ∧ 0 ≤ k ∧ hs.length ≤ 1000 ∧
  ∀ hs', hs'.length ≤ 3 → Q (.bl true) [.bn a m (cs.map pr) (pastD m cs), .md b m (cs.map pr), .sh (.int k), .ol c ((hs ++ hs').map heldD)]
abbrev n__law_asked : List Str := ["_law_bench", "_law_model", "_law_n", "_law_held", "_law_ends_here", "_law_turn", "_law_way", "_law_found", "_law_many", "_law_row", "_law_wild", "_law_kept", "_law_one"]
def dt__law_asked : DS := sSeq (sAsg (.n 4) (mF (mA (bCall sp__law_ends (baC (bMLines (bV 1)) (baC (bMWeb (bV 1)) baN)))))) (sSeq (sFor (bi1 (baC (bC (.int 3)) baN)) (.n 5) (sSeq (sAsg (.n 6) (mS (mN (bOp fMod (bOp fAdd (bV 2) (bOp fMul (bV 5) (bOp fIx (bLst (baC (bC (.int 1)) (baC (bC (.int 2)) baN))) (bOp fMod (bOp fDiv (bV 2) (bC (.int 3))) (bC (.int 2)))))) (bC (.int 3)))))) (sCut (sIf (qVal (bOp fEq (bV 6) (bC (.int 0)))) (sSeq (sAsg (.n 7) (mA (bMeth0 sp_Bench_comparers (bV 0)))) (sSeq (sIf (qNot (qVal (bCall sp__law_is_web (baC (bV 7) (baC (bMWeb (bV 1)) baN))))) (sRet (mN (bC (.bl false)))) sNext) (sSeq (sApp 7 (mN (bTup (baC (bC (.int 0)) (baC (bC (.int 0)) baN))))) (sOlApp 3 (mT2 (mV 7) (mA (bOp fAdd (bMWeb (bV 1)) (bLst (baC (bTup (baC (bC (.int 0)) (baC (bC (.int 0)) baN))) baN))))))))) sNext) (sCut (sIf (qVal (bOp fEq (bV 6) (bC (.int 1)))) (sSeq (sAsg (.n 8) (mS (mA (bMeth0 sp_Bench_many (bV 0))))) (sIf (qOr (qVal (bIsi "bool" (bV 8))) (qOr (qNot (qVal (bIsi "int" (bV 8)))) (qVal (bOp fNe (bV 8) (bCall fLenF (baC (bV 4) baN)))))) (sRet (mN (bC (.bl false)))) sNext)) sNext) (sIf (qVal (bOp fEq (bV 6) (bC (.int 2)))) (sSeq (sAsg (.n 9) (mA (bMeth0 sp_Bench_wild (bV 0)))) (sSeq (sAsg (.n 10) (mS (mN (bLc (biDT (bV 4)) (.n 12) (qVal (bOp fNe (bCall fList (baC (bV 12) baN)) (bCall fSortTu (baC (bV 12) baN)))) (bV 12) [12])))) (sSeq (sIf (qVal (bOp fNe (bOp (fIsN false) (bV 9) (bC .non)) (bOp fEq (bV 10) (bLst baN)))) (sRet (mN (bC (.bl false)))) sNext) (sSeq (sIf (qAnd (qVal (bOp (fIsN true) (bV 9) (bC .non))) (qOr (qNot (qVal (bIsi "list" (bV 9)))) (qVal (bOp fNinD (bCall fTuple (baC (bV 9) baN)) (bV 10))))) (sRet (mN (bC (.bl false)))) sNext) (sIf (qVal (bOp (fIsN true) (bV 9) (bC .non))) (sSeq (sAsg (.n 11) (mS (mA (bCall fList (baC (bV 9) baN))))) (sSeq (sApp 9 (mN (bC (.int 0)))) (sIf (qVal (bOp fNe (bMeth0 sp_Bench_wild (bV 0)) (bV 11))) (sRet (mN (bC (.bl false)))) sNext))) sNext))))) sNext))))) (sRet (mN (bC (.bl true)))))

theorem lp__law_asked : ∀ ts Q, spp__law_asked ts Q → ts.length = ["_law_bench", "_law_model", "_law_n", "_law_held"].length := by rintro ts Q ⟨_, _, _, _, _, _, _, rfl, _⟩; rfl
theorem rp__law_asked : ∀ ts Q, spp__law_asked ts Q → ∀ t ∈ ts, t.ref.isSome = true := by
  rintro ts Q ⟨_, _, _, _, _, _, _, rfl, _⟩ t m
  simp only [List.mem_cons, List.not_mem_nil, or_false] at m
  rcases m with rfl | rfl | rfl | rfl <;> rfl
/-- where the asking stands, j turns gone -/
def AskE (a : Addr) (m : Nat) (cs : List (Nat × Nat)) (b : Addr) (k : Int) (c : Addr) (hs : List (List (Nat × Nat))) (j : Nat) (x6 : Option T) (env : List (Option T)) : Prop := ∃ hs' x5 x7 x8 x9 x10 x11,
  env = [some (.bn a m (cs.map pr) (pastD m cs)), some (.md b m (cs.map pr)), some (.sh (.int k)), some (.ol c ((hs ++ hs').map heldD)), some (.sh (.abs (frzP (rowsE m cs)))), x5, x6, x7, x8, x9, x10, x11, none] ∧ hs'.length ≤ j
theorem AskE.up {a : Addr} {m : Nat} {cs : List (Nat × Nat)} {b : Addr} {k : Int} {c : Addr} {hs : List (List (Nat × Nat))} {i j : Nat} {x6 : Option T} {env : List (Option T)} (h : AskE a m cs b k c hs i x6 env) (l : i ≤ j) : AskE a m cs b k c hs j x6 env := by
  obtain ⟨hs', x5, x7, x8, x9, x10, x11, e, hl⟩ := h
  exact ⟨hs', x5, x7, x8, x9, x10, x11, e, by omega⟩
theorem way2 {k : Int} (h0 : 0 ≤ k) : k / 3 % 2 = 0 ∨ k / 3 % 2 = 1 := by omega
theorem held_snoc (hs hs' : List (List (Nat × Nat))) (cs : List (Nat × Nat)) : (hs ++ hs').map heldD ++ [.tup [.lst (cs.map pr ++ [.tup [.int 0, .int 0]]), .lst (cs.map pr ++ [.tup [.int 0, .int 0]])]] = (hs ++ (hs' ++ [cs ++ [(0, 0)]])).map heldD := by
  have e : D.lst (cs.map pr ++ [.tup [.int 0, .int 0]]) = webD (cs ++ [(0, 0)]) := by
    unfold webD
    rw [List.map_append]
    rfl
  rw [e, ← List.append_assoc, List.map_append (l₁ := hs ++ hs')]
  rfl
/-- one turn, behind its way -/
def askBody : DS := sCut (sIf (qVal (bOp fEq (bV 6) (bC (.int 0)))) (sSeq (sAsg (.n 7) (mA (bMeth0 sp_Bench_comparers (bV 0)))) (sSeq (sIf (qNot (qVal (bCall sp__law_is_web (baC (bV 7) (baC (bMWeb (bV 1)) baN))))) (sRet (mN (bC (.bl false)))) sNext) (sSeq (sApp 7 (mN (bTup (baC (bC (.int 0)) (baC (bC (.int 0)) baN))))) (sOlApp 3 (mT2 (mV 7) (mA (bOp fAdd (bMWeb (bV 1)) (bLst (baC (bTup (baC (bC (.int 0)) (baC (bC (.int 0)) baN))) baN))))))))) sNext) (sCut (sIf (qVal (bOp fEq (bV 6) (bC (.int 1)))) (sSeq (sAsg (.n 8) (mS (mA (bMeth0 sp_Bench_many (bV 0))))) (sIf (qOr (qVal (bIsi "bool" (bV 8))) (qOr (qNot (qVal (bIsi "int" (bV 8)))) (qVal (bOp fNe (bV 8) (bCall fLenF (baC (bV 4) baN)))))) (sRet (mN (bC (.bl false)))) sNext)) sNext) (sIf (qVal (bOp fEq (bV 6) (bC (.int 2)))) (sSeq (sAsg (.n 9) (mA (bMeth0 sp_Bench_wild (bV 0)))) (sSeq (sAsg (.n 10) (mS (mN (bLc (biDT (bV 4)) (.n 12) (qVal (bOp fNe (bCall fList (baC (bV 12) baN)) (bCall fSortTu (baC (bV 12) baN)))) (bV 12) [12])))) (sSeq (sIf (qVal (bOp fNe (bOp (fIsN false) (bV 9) (bC .non)) (bOp fEq (bV 10) (bLst baN)))) (sRet (mN (bC (.bl false)))) sNext) (sSeq (sIf (qAnd (qVal (bOp (fIsN true) (bV 9) (bC .non))) (qOr (qNot (qVal (bIsi "list" (bV 9)))) (qVal (bOp fNinD (bCall fTuple (baC (bV 9) baN)) (bV 10))))) (sRet (mN (bC (.bl false)))) sNext) (sIf (qVal (bOp (fIsN true) (bV 9) (bC .non))) (sSeq (sAsg (.n 11) (mS (mA (bCall fList (baC (bV 9) baN))))) (sSeq (sApp 9 (mN (bC (.int 0)))) (sIf (qVal (bOp fNe (bMeth0 sp_Bench_wild (bV 0)) (bV 11))) (sRet (mN (bC (.bl false)))) sNext))) sNext))))) sNext))
theorem dt_asked_eq : dt__law_asked = sSeq (sAsg (.n 4) (mF (mA (bCall sp__law_ends (baC (bMLines (bV 1)) (baC (bMWeb (bV 1)) baN)))))) (sSeq (sFor (bi1 (baC (bC (.int 3)) baN)) (.n 5) (sSeq (sAsg (.n 6) (mS (mN (bOp fMod (bOp fAdd (bV 2) (bOp fMul (bV 5) (bOp fIx (bLst (baC (bC (.int 1)) (baC (bC (.int 2)) baN))) (bOp fMod (bOp fDiv (bV 2) (bC (.int 3))) (bC (.int 2)))))) (bC (.int 3)))))) askBody)) (sRet (mN (bC (.bl true))))) := rfl
theorem d_asked_body {a : Addr} {m : Nat} {cs : List (Nat × Nat)} {b : Addr} {k : Int} {c : Addr} {hs : List (List (Nat × Nat))} {j : Nat} {w : Int} {De : DEnds} {env : List (Option T)} (hw : IsWeb m cs) (hl : hs.length ≤ 1000) (hj : j ≤ 3)
    (he : AskE a m cs b k c hs j (some (.sh (.int w))) env) (hn : ∀ env', AskE a m cs b k c hs (j + 1) (some (.sh (.int w))) env' → De.nx env') : askBody De env := by
  have h60 := hw.len
  have hc : D.cleans (cs.map pr) = true := clean_prs cs
  unfold askBody
  refine ⟨AskE a m cs b k c hs (j + 1) (some (.sh (.int w))), ?_, fun env1 he1 => ⟨AskE a m cs b k c hs (j + 1) (some (.sh (.int w))), ?_, fun env2 he2 => ?_⟩⟩
  · obtain ⟨hs', x5, x7, x8, x9, x10, x11, rfl, hl2⟩ := he
    walk_at "dd"
    refine ⟨fun _ => ?_, fun _ => ⟨hs', x5, x7, x8, x9, x10, x11, rfl, by omega⟩⟩
    refine ⟨m, cs, pastD m cs, rfl, ?_⟩
    walk_at "dd"
    refine ⟨hc, cs, cs, rfl, by omega, ?_⟩
    walk_at "dd"
    refine ⟨fun h => by simp at h, fun _ => ?_⟩
    refine ⟨by decide, by rw [List.length_map]; omega, ⟨_, _, rfl⟩, by decide, by decide, by rw [List.length_map]; omega, ?_, c, _, rfl, by rw [List.length_map, List.length_append]; omega, ?_⟩
    · have e : cs.map pr ++ [D.tup [.int 0, .int 0]] = (cs ++ [(0, 0)]).map pr := by rw [List.map_append]; rfl
      rw [e]
      exact clean_prs _
    · refine ⟨hs' ++ [cs ++ [(0, 0)]], x5, none, x8, x9, x10, x11, ?_, by rw [List.length_append, List.length_singleton]; omega⟩
      rw [← held_snoc]
  · obtain ⟨hs', x5, x7, x8, x9, x10, x11, rfl, hl2⟩ := he1
    walk_at "dd"
    refine ⟨fun _ => ?_, fun _ => ⟨hs', x5, x7, x8, x9, x10, x11, rfl, by omega⟩⟩
    refine ⟨m, cs, cs.map pr, rfl, ?_⟩
    walk_at "dd"
    refine ⟨false, ⟨false, ⟨rowsE m cs, rfl, fine_i, ?_⟩, rfl⟩, fun h => (by cases h), fun _ => ⟨hs', x5, x7, _, x9, x10, x11, rfl, hl2⟩⟩
    show (!deq (.int ((endsL m cs).length : Int)) (.int ((rowsE m cs).length : Int))) = false
    rw [rowsE_len, deq_rfl]
    rfl
  · obtain ⟨hs', x5, x7, x8, x9, x10, x11, rfl, hl2⟩ := he2
    walk_at "dd"
    refine ⟨fun _ => ?_, fun _ => hn _ ⟨hs', x5, x7, x8, x9, x10, x11, rfl, by omega⟩⟩
    refine ⟨m, cs, cs.map pr, rfl, hw, ?_⟩
    have hcl : (wildT m cs).clean = true := by
      unfold wildT
      split
      · exact clean_ints _
      · rfl
    refine ⟨hcl, ?_⟩
    unfold bLc biDT
    walk_at "dd"
    refine .inr ⟨rowsE m cs, rfl, by rw [List.length_map]; exact Nat.le_trans (rowsE_few hw) (by decide), _, rowsE m cs, tupI, fun r => if (!rising r) = true then some (tupI r) else none, rfl, fun r hr => ?_, ?_⟩
    · obtain ⟨r1, _⟩ := rowsE_row hw hr
      have hm := hw.hi
      unfold tupI
      walk_at "dd"
      refine ⟨r, rfl, by omega, ?_⟩
      walk_at "dd"
      have e : deq (.lst (r.map .int)) (.lst ((srt r).map .int)) = rising r := (deq_ints r (srt r)).trans (eq_srt r)
      rw [e]
      exact ⟨fine_ints r 8, fine_ints _ 8, fun h => by rw [if_pos h], fun h => by rw [if_neg (by rw [h]; decide)]⟩
    · rw [fm_if (fun r => !rising r) tupI]
      cases e : wildL m cs with
      | none =>
        have ew : wildT m cs = .sh .non := by unfold wildT; rw [e]
        have hW : (rowsE m cs).filter (fun r => !rising r) = [] := by
          rw [List.filter_eq_nil_iff]
          intro r hr
          rw [wild_none e hr]
          simp
        rw [ew, hW]
        walk_at "dd"
        refine ⟨by decide, rfl, rfl, fun h => ?_, fun _ => ⟨false, hn _ ⟨hs', x5, x7, x8, _, _, x11, rfl, hl2⟩⟩⟩
        rw [deq_rfl] at h
        simp at h
      | some r =>
        have ew : wildT m cs = .ow (r.map .int) := by unfold wildT; rw [e]
        obtain ⟨hr, hr2⟩ := wild_some e
        have hm : r ∈ (rowsE m cs).filter (fun r => !rising r) := List.mem_filter.mpr ⟨hr, by rw [hr2]; rfl⟩
        generalize (rowsE m cs).filter (fun r => !rising r) = W at hm
        have hrl := (rowsE_row hw hr).1
        have h10 := hw.hi
        rw [ew]
        walk_at "dd"
        refine ⟨by decide, fine_tups W, rfl, fun h => ?_, fun _ => ⟨false, ⟨false, ⟨W.map tupI, rfl, ?_, fine_tups W, ?_⟩, rfl⟩, fun h => (by cases h), fun _ => ⟨clean_ints r, by rw [List.length_map]; omega, m, cs, cs.map pr, rfl, hw, ?_⟩⟩⟩
        · rw [deq_lnil] at h
          cases W with
          | nil => cases hm
          | cons x l => simp at h
        · show (D.tup (r.map .int)).fine 9 = true
          rw [fine_t]
          exact fines_map fun i _ => fine_i
        · show (!(W.map tupI).any fun z => deq z (tupI r)) = false
          rw [Bool.not_eq_false', List.any_eq_true]
          exact ⟨tupI r, List.mem_map.mpr ⟨r, hm, rfl⟩, deq_rfl _⟩
        · rw [ew]
          refine ⟨fine_ints r 8, fine_ints r 8, fun h => ?_, fun _ => hn _ ⟨hs', x5, x7, x8, _, _, _, rfl, hl2⟩⟩
          have e2 : deq (T.ow (r.map .int)).d (.lst (r.map .int)) = true := deq_rfl _
          rw [e2] at h
          cases h
theorem dp__law_asked : ∀ ts Q, spp__law_asked ts Q → dt__law_asked (endsP ts Q) (envP n__law_asked.length ts) := by
  rintro ts Q ⟨a, m, cs, b, k, c, hs, rfl, hw, hk, hl, hQ⟩
  show dt__law_asked (endsP _ Q) [some (.bn a m (cs.map pr) (pastD m cs)), some (.md b m (cs.map pr)), some (.sh (.int k)), some (.ol c (hs.map heldD)), none, none, none, none, none, none, none, none, none]
  rw [dt_asked_eq]
  walk_at "dd"
  refine ⟨m, cs, rfl, hw, rfl, _, rfl, ?_⟩
  refine sFor_mk (ups 0 1 3) D.int (fun ps env => ∃ x6, AskE a m cs b k c hs ps.length x6 env) (fun R h => ⟨by decide, by decide, h⟩) ⟨none, [], none, none, none, none, none, none, by rw [List.append_nil], Nat.le_refl _⟩ ?_ ?_
  · rintro N ps t qs env' hx ⟨x6, hs', x5, x7, x8, x9, x10, x11, rfl, hl2⟩
    have hlen := congrArg List.length hx
    rw [ups_len, List.length_append, List.length_cons] at hlen
    refine ⟨_, rfl, ?_⟩
    walk_at "dd"
    rcases way2 hk with h | h
    · refine ⟨by decide, ⟨by decide, by decide⟩, by decide, .int 1, by rw [h]; rfl, .inr (by decide), ?_⟩
      walk_at "dd"
      refine ⟨by decide, d_asked_body hw hl (by omega) ⟨hs', _, x7, x8, x9, x10, x11, rfl, hl2⟩ fun env' h => ⟨some (.sh (.int ((k + t * 1) % 3))), by rw [List.length_append, List.length_singleton]; exact h⟩⟩
    · refine ⟨by decide, ⟨by decide, by decide⟩, by decide, .int 2, by rw [h]; rfl, .inr (by decide), ?_⟩
      walk_at "dd"
      refine ⟨by decide, d_asked_body hw hl (by omega) ⟨hs', _, x7, x8, x9, x10, x11, rfl, hl2⟩ fun env' h => ⟨some (.sh (.int ((k + t * 2) % 3))), by rw [List.length_append, List.length_singleton]; exact h⟩⟩
  · rintro env' ⟨x6, hs', x5, x7, x8, x9, x10, x11, rfl, hl2⟩
    rw [ups_len] at hl2
    walk_at "dd"
    exact ⟨_, rfl, [_, _, _, _], rfl, rfl, hQ hs' hl2⟩
end W

/-! KE: a deed at a bench; what is refused (k11). -/
namespace W
open PySem L2
local macro_rules | `(tactic| walk_at "dd") => `(tactic| simp only [sRaise, sRaiseP, sCallX, sSetX, sTry, sTry2, sSeq, sAsg, sAsgG, sDrop, sRet, sRetN, sIf, sNext, sNever, sCont, sApp, sAppT, sIns, sPopAt, sShare, sAppAt, gT2, gX, mS, mN, mA, mT2, sPar3, bLz, qCh3, sPar, sExt, bLr1, bLr2, mPop, mPopAt, mIf, bCount, noIs_n, noIs_c, noI_i, noI_web, mkLst_d, mkTup_d, put_pr, fIx_pr, intsD, webD, mH, half_ows, half_ow, half_sh, half_lst1, half_lst1s, clean_lst1, sets_n, sets_c, List.map_cons, List.map_nil, bOp, bC_eq, bV0, bV1, mV0, mV1, fAdd_i, fAdd_l, fAdd_s, fAdd_t, fMul_i, fMul_l, fI0_eq, fI_eq, fIx_l, fIx_t, fIx_s, fEq_eq, fNe_eq, asB_eq, asI_eq, fLen_l, fLen_f, fLen_t, fLen_s, fList_l, fList_f, fList_t, fTuple_l, fTuple_t, fMax2_i, fMin2_i, fSl_l, fSl_f, fSl_s, fSlS_l, fSlS_t, isN_int, isN_str, isN_lst, isN_tup, isN_bl, isN_non, put_n, put_t2, put_p2, put_t3, d_sh, d_ow, d_tp, d_ows, ds_n, ds_c, hide_n, hide_cons, hideO_sh, hideO_ow, hideO_ows, hideO_tp, hideO_n, wipeE_n, wipeE_c, mkTup_0, mkTup_1, mkTup_2, mkTup_3, mkLst_0, mkLst_1, mkLst_2, mkLst_3, mkLst_4, isOw_ow, isOw_ows, shO_some, shO_none, clean_sh, clean_ow, clean_i, clean_b, clean_s, clean_n, clean_t, cleans_n, cleans_c, fine_i, fine_b, fine_n, deq_i, deq_b, deq_s, n0, n1, List.set_cons_zero, List.set_cons_succ, List.set_nil, Option.some.injEq, exists_eq_left', bCall, baC, baN, qVal, qAnd, qOr, qNot, qYes, bAnd, bOr, bNot, bCh, bIf, bTup, bLst, bSl, bSlS, boN, boS, bRev, bNeg, bIsi, biL, biT, bi1, bi2, bi3, biE, biZ, List.length_cons, List.length_nil, true_and, and_true, Bool.and_true, Bool.true_and, Bool.not_not, reduceCtorEq, false_implies, implies_true, true_implies, forall_const, Bool.not_true, Bool.not_false, Bool.false_or, Bool.true_or, Bool.or_false, Bool.or_true, Bool.and_false, Bool.false_and, tyN_i, isT_i_int, isT_i_bool, isT_i_list, isT_i_tuple, isT_i_str, tyN_b, isT_b_int, isT_b_bool, isT_b_list, isT_b_tuple, isT_b_str, tyN_n, isT_n_int, isT_n_bool, isT_n_list, isT_n_tuple, isT_n_str, tyN_s, isT_s_int, isT_s_bool, isT_s_list, isT_s_tuple, isT_s_str, tyN_l, isT_l_int, isT_l_bool, isT_l_list, isT_l_tuple, isT_l_str, tyN_t, isT_t_int, isT_t_bool, isT_t_list, isT_t_tuple, isT_t_str, tyN_f, isT_f_int, isT_f_bool, isT_f_list, isT_f_tuple, isT_f_str, fInt_i, fInt_b, bLenSet, bMeet, sSubA, tyN_d, isT_d_int, isT_d_bool, isT_d_list, isT_d_tuple, isT_d_str, bLines, bLaid, bPast, bnS_bn, bMeth0, isBn_bn, bMake, mMeth, bnAt_bn, dtAt_dt, sLaidApp, sPastApp, sDPutT, bDNew, sIfN, d_bn, d_dt, hideO_bn, hideO_dt, shO_bn, fSl_t, d_md, d_ol, d_ml, hideO_md, hideO_ol, hideO_ml2, clean_dt, clean_exc, mdS_md, mdN_md, mdN_mdn, bMLines, bMWeb, mOp, mIsi, mtVal, mtNot, mtOr, sIfT, mMeth0, sOlApp, mF])
/-- the comparer that a deed puts -/
def deedC (n : Int) (L : Nat) : Nat × Nat :=
  let a := n / 5 % L
  let b := (a + 1 + n / 50 % (L - 1)) % L
  if n / 500 % 3 > 0 then ((min a b).toNat, (max a b).toNat) else (a.toNat, b.toNat)
theorem deed_ab {n : Int} {L : Nat} (hL : 2 ≤ L) : 0 ≤ n / 5 % (L : Int) ∧ n / 5 % (L : Int) < L ∧ 0 ≤ (n / 5 % (L : Int) + 1 + n / 50 % ((L : Int) - 1)) % L ∧ (n / 5 % (L : Int) + 1 + n / 50 % ((L : Int) - 1)) % L < L ∧ (n / 5 % (L : Int) + 1 + n / 50 % ((L : Int) - 1)) % L ≠ n / 5 % (L : Int) := by
  have a0 := Int.emod_nonneg (n / 5) (show (L : Int) ≠ 0 by omega)
  have a1 := Int.emod_lt_of_pos (n / 5) (show (0 : Int) < L by omega)
  have x0 := Int.emod_nonneg (n / 50) (show (L : Int) - 1 ≠ 0 by omega)
  have x1 := Int.emod_lt_of_pos (n / 50) (show (0 : Int) < (L : Int) - 1 by omega)
  generalize n / 5 % (L : Int) = a at *
  generalize n / 50 % ((L : Int) - 1) = x at *
  by_cases h : a + 1 + x < L
  · rw [Int.emod_eq_of_lt (by omega) h]
    omega
  · have e : (a + 1 + x) % (L : Int) = a + 1 + x - L := by
      rw [← Int.sub_emod_right, Int.emod_eq_of_lt (by omega) (by omega)]
    rw [e]
    omega
theorem deedC_ok {n : Int} {L : Nat} (hL : 2 ≤ L) : (deedC n L).1 < L ∧ (deedC n L).2 < L ∧ (deedC n L).1 ≠ (deedC n L).2 := by
  obtain ⟨a0, a1, b0, b1, ne⟩ := deed_ab (n := n) hL
  unfold deedC
  simp only
  generalize n / 5 % (L : Int) = a at *
  generalize (a + 1 + n / 50 % ((L : Int) - 1)) % (L : Int) = b at *
  split
  · simp only
    omega
  · simp only
    omega
def spp__law_deed : SpP := fun ts Q => ∃ (a : Addr) (m : Nat) (cs : List (Nat × Nat)) (b : Addr) (cell k : Int),
  ts = [.bn a m (cs.map pr) (pastD m cs), .md b m (cs.map pr), .sh (.int cell), .sh (.int k)] ∧ IsWeb m cs ∧ 0 ≤ k ∧ k ≤ 1000 ∧
  ∀ cs', IsWeb m cs' → Q (.bl true) [.bn a m (cs'.map pr) (pastD m cs'), .md b m (cs'.map pr), .sh (.int cell), .sh (.int k)]
abbrev n__law_deed : List Str := ["_law_bench", "_law_model", "_law_cell", "_law_k", "_law_n", "_law_lines", "_law_a", "_law_b", "_law_comparer", "_law_due", "_law_found", "_law_one", "_law_other", "_law_row"]
def dt__law_deed : DS := sSeq (sAsg (.n 4) (mS (mN (bCall sp__law_draw (baC (bV 2) (baC (bV 3) (baC (bC (.int 100)) baN))))))) (sSeq (sAsg (.n 5) (mS (mA (bMLines (bV 1))))) (sSeq (sIf (qOr (qAnd (qVal (bOp fEq (bOp fMod (bV 4) (bC (.int 5))) (bC (.int 0)))) (qVal (bOp fNe (bMWeb (bV 1)) (bLst baN)))) (qVal (bOp fEq (bCall fLen (baC (bMWeb (bV 1)) baN)) (bC (.int 60))))) (sRet (mOp fEq (mMeth0 0 sp_Bench_take_back) (mMdPop 1))) sNext) (sSeq (sIf (qVal (bOp fEq (bV 5) (bC (.int 1)))) (sRet (mA (bOp fEq (bCall sp__law_word (baC (bCall sp__law_tried (baC (bV 0) (baC (bTup (baC (bC (.int 0)) (baC (bC (.int 0)) baN))) baN))) baN)) (bC (.str "web"))))) sNext) (sSeq (sAsg (.n 6) (mS (mN (bOp fMod (bOp fDiv (bV 4) (bC (.int 5))) (bV 5))))) (sSeq (sAsg (.n 7) (mS (mN (bOp fMod (bOp fAdd (bOp fAdd (bV 6) (bC (.int 1))) (bOp fMod (bOp fDiv (bV 4) (bC (.int 50))) (bOp fSub (bV 5) (bC (.int 1))))) (bV 5))))) (sSeq (sAsg (.n 8) (mS (mN (bIf (qVal (bOp fGt (bOp fMod (bOp fDiv (bV 4) (bC (.int 500))) (bC (.int 3))) (bC (.int 0)))) (bTup (baC (bCall fMin2 (baC (bV 6) (baC (bV 7) baN))) (baC (bCall fMax2 (baC (bV 6) (baC (bV 7) baN))) baN))) (bTup (baC (bV 6) (baC (bV 7) baN))))))) (sSeq (sAsg (.t [11, 12]) (mS (mN (bV 8)))) (sSeq (sAsg (.n 9) (mS (mA (bOp fNe (bLc (biDT (bCall sp__law_ends (baC (bV 5) (baC (bMWeb (bV 1)) baN)))) (.n 13) (qVal (bOp fGt (bOp fIx (bV 13) (bV 11)) (bOp fIx (bV 13) (bV 12)))) (bV 13) [13]) (bLst baN))))) (sSeq (sMdApp 1 (bV 8)) (sSeq (sAsg (.n 10) (mS (mMeth 0 sp_Bench_put (baC (bV 8) baN)))) (sRet (mN (bAnd (bIsi "bool" (bV 10)) (bOp fEq (bV 10) (bV 9)))))))))))))))

theorem lp__law_deed : ∀ ts Q, spp__law_deed ts Q → ts.length = ["_law_bench", "_law_model", "_law_cell", "_law_k"].length := by rintro ts Q ⟨_, _, _, _, _, _, rfl, _⟩; rfl
theorem rp__law_deed : ∀ ts Q, spp__law_deed ts Q → ∀ t ∈ ts, t.ref.isSome = true := by
  rintro ts Q ⟨_, _, _, _, _, _, rfl, _⟩ t m
  simp only [List.mem_cons, List.not_mem_nil, or_false] at m
  rcases m with rfl | rfl | rfl | rfl <;> rfl
theorem dp__law_deed : ∀ ts Q, spp__law_deed ts Q → dt__law_deed (endsP ts Q) (envP n__law_deed.length ts) := by
  rintro ts Q ⟨a, m, cs, b, cell, k, rfl, hw, k0, k1, hQ⟩
  have h1 := hw.lo
  have h10 := hw.hi
  have h60 := hw.len
  show dt__law_deed (endsP _ Q) [some (.bn a m (cs.map pr) (pastD m cs)), some (.md b m (cs.map pr)), some (.sh (.int cell)), some (.sh (.int k)), none, none, none, none, none, none, none, none, none, none]
  unfold dt__law_deed
  unfold mMdPop
  walk_at "dd"
  refine ⟨cell, k, 100, rfl, ⟨k0, by omega, by decide, by decide⟩, ?_⟩
  have n0 := draw_lo cell k 100
  generalize draw cell k 100 = n at n0 ⊢
  walk_at "dd"
  refine ⟨by decide, !(cs.map pr).isEmpty, fun _ => ⟨by decide, fine_web cs 7, rfl, by rw [deq_lnil]⟩, decide (((cs.map pr).length : Int) = 60), fun _ => rfl, fun h => ?_, fun h => ⟨fun h2 => ?_, fun h2 => ?_⟩⟩
  · rcases List.eq_nil_or_concat cs with e | ⟨cs0, c, e⟩
    · subst e
      simp at h
    · rw [List.concat_eq_append] at e
      subst e
      refine ⟨m, cs0, c, rfl, rfl, rfl, rfl, b, m, cs0.map pr, pr c, by rw [List.map_append]; rfl, fine_pr c 8, fine_pr c 8, _, rfl, [.bn a m (cs0.map pr) (pastD m cs0), .md b m (cs0.map pr), .sh (.int cell), .sh (.int k)], rfl, rfl, ?_⟩
      rw [deq_rfl]
      refine hQ cs0 ⟨h1, h10, ?_, fun d hd => hw.ok d (List.mem_append_left _ hd)⟩
      have := hw.len
      rw [List.length_append] at this
      omega
  · refine ⟨by decide, .inl ⟨m, cs, pastD m cs, pr (0, 0), rfl, tyOk_pr _, fun h => (by unfold pr at h; cases h), .inl (cmpr00 m), .inr ⟨"BadWeb", some none, rfl, by decide +kernel, ?_⟩⟩⟩
    rw [word_web]
    refine ⟨by decide +kernel, by decide +kernel, _, rfl, [.bn a m (cs.map pr) (pastD m cs), .md b m (cs.map pr), .sh (.int cell), .sh (.int k)], rfl, rfl, ?_⟩
    have e : deq (T.sh (.str "web")).d (.str (Str.ofString "web")) = true := deq_rfl _
    rw [e]
    exact hQ cs hw
  · have h2 := of_decide_eq_false h2
    have hm2 : 2 ≤ m := by omega
    have hlt : cs.length < 60 := by
      rcases Nat.lt_or_eq_of_le h60 with h3 | h3
      · exact h3
      · rw [List.length_map, h3] at h
        simp at h
    obtain ⟨a0, a1, b0, b1, ne⟩ := deed_ab (n := n) hm2
    refine ⟨⟨by decide, by decide⟩, by omega, ⟨by decide, by decide⟩, by omega, by omega, ⟨by decide, by decide⟩, by decide, .sh (pr (deedC n m)), fun h => ⟨by decide, ?_⟩, fun h => ⟨by decide, ?_⟩, ?_⟩
    · have h := of_decide_eq_true h
      unfold deedC pr
      simp only
      rw [if_pos h]
      congr 2
      simp only [List.cons.injEq, D.int.injEq, and_true]
      omega
    · have h := of_decide_eq_false h
      unfold deedC pr
      simp only
      rw [if_neg h]
      congr 2
      simp only [List.cons.injEq, D.int.injEq, and_true]
      omega
    · obtain ⟨c1, c2, c3⟩ := deedC_ok (n := n) hm2
      generalize deedC n m = c at c1 c2 c3 ⊢
      refine ⟨_, rfl, ?_⟩
      have hw2 : IsWeb m (cs ++ [c]) := ⟨h1, h10, by rw [List.length_append, List.length_singleton]; omega, fun d hd => by
        rcases List.mem_append.mp hd with hd | hd
        · exact hw.ok d hd
        · rw [List.mem_singleton] at hd
          rw [hd]
          exact ⟨c1, c2, c3⟩⟩
      unfold bLc biDT
      walk_at "dd"
      refine ⟨m, cs, rfl, hw, .inl ⟨_, rfl, by rw [List.length_map]; exact Nat.le_trans (rowsE_few hw) (by decide), _, rowsE m cs, tupI, fun r => if decide (r.getD c.2 0 < r.getD c.1 0) = true then some (tupI r) else none, rfl, fun r hr => ?_, ?_⟩⟩
      · obtain ⟨r1, _⟩ := rowsE_row hw hr
        unfold tupI
        walk_at "dd"
        refine ⟨_, atI_int (by omega), _, atI_int (by omega), ?_⟩
        walk_at "dd"
        exact ⟨fun h => by rw [if_pos h], fun h => by rw [if_neg (by rw [h]; decide)]⟩
      · rw [fm_if (fun r : List Int => decide (r.getD c.2 0 < r.getD c.1 0)) tupI]
        refine ⟨by decide, fine_tups _, rfl, ?_⟩
        unfold sMdApp
        refine ⟨b, m, cs.map pr, rfl, by rw [List.length_map]; omega, ?_⟩
        walk_at "dd"
        refine ⟨m, cs, c, rfl, rfl, rfl, rfl, hw2, ty_b, true, fun _ => ⟨fine_b, ?_⟩, _, rfl, [.bn a m ((cs ++ [c]).map pr) (pastD m (cs ++ [c])), .md b m ((cs ++ [c]).map pr), .sh (.int cell), .sh (.int k)], ?_, rfl, ?_⟩
        · rw [deq_lnil, ← stirB_rows, deq_b]
          simp
        · rw [List.map_append]
          rfl
        · rw [isT_b_bool]
          exact hQ _ hw2
end W

/-! KF: a bench with sixty comparers (k11). -/
namespace W
open PySem L2
local macro_rules | `(tactic| walk_at "dd") => `(tactic| simp only [sRaise, sRaiseP, sCallX, sSetX, sTry, sTry2, sSeq, sAsg, sAsgG, sDrop, sRet, sRetN, sIf, sNext, sNever, sCont, sApp, sAppT, sIns, sPopAt, sShare, sAppAt, gT2, gX, mS, mN, mA, mT2, sPar3, bLz, qCh3, sPar, sExt, bLr1, bLr2, mPop, mPopAt, mIf, bCount, noIs_n, noIs_c, noI_i, noI_web, mkLst_d, mkTup_d, put_pr, fIx_pr, intsD, webD, mH, half_ows, half_ow, half_sh, half_lst1, half_lst1s, clean_lst1, sets_n, sets_c, List.map_cons, List.map_nil, bOp, bC_eq, bV0, bV1, mV0, mV1, fAdd_i, fAdd_l, fAdd_s, fAdd_t, fMul_i, fMul_l, fI0_eq, fI_eq, fIx_l, fIx_t, fIx_s, fEq_eq, fNe_eq, asB_eq, asI_eq, fLen_l, fLen_f, fLen_t, fLen_s, fList_l, fList_f, fList_t, fTuple_l, fTuple_t, fMax2_i, fMin2_i, fSl_l, fSl_f, fSl_s, fSlS_l, fSlS_t, isN_int, isN_str, isN_lst, isN_tup, isN_bl, isN_non, put_n, put_t2, put_p2, put_t3, d_sh, d_ow, d_tp, d_ows, ds_n, ds_c, hide_n, hide_cons, hideO_sh, hideO_ow, hideO_ows, hideO_tp, hideO_n, wipeE_n, wipeE_c, mkTup_0, mkTup_1, mkTup_2, mkTup_3, mkLst_0, mkLst_1, mkLst_2, mkLst_3, mkLst_4, isOw_ow, isOw_ows, shO_some, shO_none, clean_sh, clean_ow, clean_i, clean_b, clean_s, clean_n, clean_t, cleans_n, cleans_c, fine_i, fine_b, fine_n, deq_i, deq_b, deq_s, n0, n1, List.set_cons_zero, List.set_cons_succ, List.set_nil, Option.some.injEq, exists_eq_left', bCall, baC, baN, qVal, qAnd, qOr, qNot, qYes, bAnd, bOr, bNot, bCh, bIf, bTup, bLst, bSl, bSlS, boN, boS, bRev, bNeg, bIsi, biL, biT, bi1, bi2, bi3, biE, biZ, List.length_cons, List.length_nil, true_and, and_true, Bool.and_true, Bool.true_and, Bool.not_not, reduceCtorEq, false_implies, implies_true, true_implies, forall_const, Bool.not_true, Bool.not_false, Bool.false_or, Bool.true_or, Bool.or_false, Bool.or_true, Bool.and_false, Bool.false_and, tyN_i, isT_i_int, isT_i_bool, isT_i_list, isT_i_tuple, isT_i_str, tyN_b, isT_b_int, isT_b_bool, isT_b_list, isT_b_tuple, isT_b_str, tyN_n, isT_n_int, isT_n_bool, isT_n_list, isT_n_tuple, isT_n_str, tyN_s, isT_s_int, isT_s_bool, isT_s_list, isT_s_tuple, isT_s_str, tyN_l, isT_l_int, isT_l_bool, isT_l_list, isT_l_tuple, isT_l_str, tyN_t, isT_t_int, isT_t_bool, isT_t_list, isT_t_tuple, isT_t_str, tyN_f, isT_f_int, isT_f_bool, isT_f_list, isT_f_tuple, isT_f_str, fInt_i, fInt_b, bLenSet, bMeet, sSubA, tyN_d, isT_d_int, isT_d_bool, isT_d_list, isT_d_tuple, isT_d_str, bLines, bLaid, bPast, bnS_bn, bMeth0, isBn_bn, bMake, mMeth, bnAt_bn, dtAt_dt, sLaidApp, sPastApp, sDPutT, bDNew, sIfN, d_bn, d_dt, hideO_bn, hideO_dt, shO_bn, fSl_t, d_md, d_ol, d_ml, hideO_md, hideO_ol, hideO_ml2, clean_dt, clean_exc, mdS_md, mdN_md, mdN_mdn, bMLines, bMWeb, mOp, mIsi, mtVal, mtNot, mtOr, sIfT, mMeth0, sOlApp, mF])
/-- the comparers of the full bench -/
def fullC (m : Nat) (n : Int) (i : Nat) : Nat × Nat := if n / 2 ^ ((i : Int) % 20).toNat % 3 = 0 then (0, 1) else if n / 2 ^ ((i : Int) % 20).toNat % 3 = 1 then (1, 0) else (m - 1, 0)
def fullW (m : Nat) (n : Int) : List (Nat × Nat) := (List.range 60).map (fullC m n)
theorem fullC_ok {m : Nat} (hm : 2 ≤ m) (n : Int) (i : Nat) : (fullC m n i).1 < m ∧ (fullC m n i).2 < m ∧ (fullC m n i).1 ≠ (fullC m n i).2 := by
  unfold fullC
  split
  · exact ⟨by show 0 < m; omega, by show 1 < m; omega, by decide⟩
  · split
    · exact ⟨by show 1 < m; omega, by show 0 < m; omega, by decide⟩
    · exact ⟨by show m - 1 < m; omega, by show 0 < m; omega, by show m - 1 ≠ 0; omega⟩
theorem fullW_web {m : Nat} (hm : 2 ≤ m) (h10 : m ≤ 10) (n : Int) : IsWeb m (fullW m n) ∧ (fullW m n).length = 60 := by
  have e : (fullW m n).length = 60 := by unfold fullW; rw [List.length_map, List.length_range]
  refine ⟨⟨by omega, h10, by omega, fun c hc => ?_⟩, e⟩
  unfold fullW at hc
  obtain ⟨i, _, rfl⟩ := List.mem_map.mp hc
  exact fullC_ok hm n i
def sp__law_full : SpD := fun ds Q => ∃ (m : Nat) (n : Int), ds = [.int m, .int n] ∧ 2 ≤ m ∧ m ≤ 10 ∧ Q (.sh (.bl true))
abbrev n__law_full : List Str := ["_law_lines", "_law_n", "_law_bench", "_law_web", "_law_comparer", "_law_turn", "_law_e", "_law_k"]
def dt__law_full : DS := sSeq (sAsg (.n 2) (mN (bMake sp_Bench_init (bV 0)))) (sSeq (sAsg (.n 3) (mS (mN (bLc (bi1 (baC (bC (.int 60)) baN)) (.n 7) qYes (bOp fIx (bLst (baC (bTup (baC (bC (.int 0)) (baC (bC (.int 1)) baN))) (baC (bTup (baC (bC (.int 1)) (baC (bC (.int 0)) baN))) (baC (bTup (baC (bOp fSub (bV 0) (bC (.int 1))) (baC (bC (.int 0)) baN))) baN)))) (bOp fMod (bOp fShr (bV 1) (bOp fMod (bV 7) (bC (.int 20)))) (bC (.int 3)))) [7])))) (sSeq (sFor (biL (bV 3)) (.n 4) (sDrop (mMeth 2 sp_Bench_put (baC (bV 4) baN)))) (sSeq (sFor (bi1 (baC (bC (.int 2)) baN)) (.n 5) (sSeq (sAsg (.n 6) (mS (mA (bCall sp__law_tried (baC (bV 2) (baC (bTup (baC (bC (.int 0)) (baC (bC (.int 1)) baN))) baN)))))) (sSeq (sIf (qOr (qVal (bOp fNe (bCall sp__law_word (baC (bV 6) baN)) (bC (.str "web")))) (qOr (qVal (bOp (fIsN true) (bPlace "BadWeb" (bV 6)) (bC .non))) (qVal (bOp fNe (bMeth0 sp_Bench_comparers (bV 2)) (bV 3))))) (sRet (mN (bC (.bl false)))) sNext) (sIfT (mtOr (mtVal (mOp fNe (mMeth0 2 sp_Bench_take_back) (mN (bOp fIx (bV 3) (bNeg (bC (.int 1))))))) (mtNot (mtVal (mIsi "bool" (mMeth 2 sp_Bench_put (baC (bOp fIx (bV 3) (bNeg (bC (.int 1)))) baN)))))) (sRet (mN (bC (.bl false)))) sNext)))) (sShare 2 (sSeq (sRet (mN (bOp fEq (bMeth0 sp_Bench_comparers (bV 2)) (bV 3)))) sNext)))))

theorem l__law_full : ∀ ds Q, sp__law_full ds Q → ds.length = ["_law_lines", "_law_n"].length := by rintro ds Q ⟨_, _, rfl, _⟩; rfl
theorem d__law_full : ∀ ds Q, sp__law_full ds Q → dt__law_full (ends0 Q) (env0 n__law_full.length ds) := by
  rintro ds Q ⟨m, n, rfl, hm, h10, hQ⟩
  show dt__law_full (ends0 Q) [some (.sh (.int m)), some (.sh (.int n)), none, none, none, none, none, none]
  unfold dt__law_full
  walk_at "dd"
  refine ⟨m, rfl, m, rfl, by omega, h10, fun a => ?_⟩
  unfold bLc
  simp only [bi1, baC, baN, bC_eq, ds_c, ds_n, d_sh, put_n, wipeE_c, wipeE_n, hide_cons, hide_n, hideO_sh, hideO_n, hideO_bn, qYes, List.set_cons_zero, List.set_cons_succ, exists_eq_left', Option.some.injEq, true_implies, reduceCtorEq, false_implies, implies_true, and_true, bOp, bLst, bTup, mkTup_2, bV0, bV1, fI0_eq, mkLst_3, d_ow, fIx_l]
  walk_at "dd"
  refine ⟨by decide, by decide, by rw [List.length_map, ups_len]; decide, _, List.range 60, fun i => D.int (i : Nat), fun i => some (pr (fullC m n i)), ups_range 60, fun i _ => ⟨by decide, by decide, by decide, by decide, ?_⟩, ?_⟩
  · walk_at "dd"
    have h20 : 0 ≤ (i : Int) % 20 := by omega
    refine ⟨by decide, h20, by decide, ?_⟩
    unfold fullC
    generalize n / 2 ^ ((i : Int) % 20).toNat = z
    have h3 : z % 3 = 0 ∨ z % 3 = 1 ∨ z % 3 = 2 := by omega
    rcases h3 with h | h | h <;> rw [h]
    · exact ⟨_, rfl, rfl⟩
    · exact ⟨_, rfl, rfl⟩
    · refine ⟨_, rfl, ?_⟩
      rw [if_neg (by decide), if_neg (by decide)]
      unfold pr
      congr 3
      simp only [D.int.injEq]
      omega
  · have e : (List.range 60).map (fun i => pr (fullC m n i)) = (fullW m n).map pr := by unfold fullW; rw [List.map_map]; rfl
    obtain ⟨hw, h60⟩ := fullW_web hm h10 n
    rw [fm_some, e]
    generalize fullW m n = ws at hw h60 ⊢
    refine sFor_mk ws pr (fun ps env => ∃ x, env = [some (.sh (.int m)), some (.sh (.int n)), some (.bn a m (ps.map pr) (pastD m ps)), some (.sh (.lst (ws.map pr))), x, none, none, none]) (fun R h => h) ⟨none, rfl⟩ ?_ ?_
    · rintro N ps c qs env' hx ⟨x, rfl⟩
      refine ⟨_, rfl, ?_⟩
      walk_at "dd"
      exact ⟨m, ps, c, rfl, rfl, rfl, rfl, hw.part hx, _, rfl⟩
    · rintro env' ⟨x, rfl⟩
      walk_at "dd"
      refine sFor_mk (ups 0 1 2) D.int (fun ps env => ∃ x4 x5 x6, env = [some (.sh (.int m)), some (.sh (.int n)), some (.bn a m (ws.map pr) (pastD m ws)), some (.sh (.lst (ws.map pr))), x4, x5, x6, none]) (fun R h => ⟨by decide, by decide, h⟩) ⟨x, none, none, rfl⟩ ?_ ?_
      · rintro N ps t qs env' hx ⟨x4, x5, x6, rfl⟩
        refine ⟨_, rfl, ?_⟩
        unfold bPlace
        walk_at "dd"
        obtain ⟨p0, cl, ew⟩ : ∃ p0 cl, ws = p0 ++ [cl] := ⟨ws.dropLast, ws.getLast (by intro z; subst z; cases h60), (List.dropLast_concat_getLast _).symm⟩
        have hat : atI (ws.map pr) (-1) = some (pr cl) := by
          rw [ew, List.map_append]
          exact atI_last _ _
        refine ⟨by decide, .inl ⟨m, ws, pastD m ws, pr (0, 1), rfl, tyOk_pr _, fun h => (by unfold pr at h; cases h), .inr h60, rfl, .inr ⟨"BadWeb", some none, rfl, by decide +kernel, ?_⟩⟩⟩
        rw [word_web]
        have e : deq (T.sh (.str "web")).d (.str (Str.ofString "web")) = true := deq_rfl _
        dsimp only
        rw [e]
        refine ⟨by decide +kernel, by decide +kernel, false, fun _ => ⟨rfl, false, fun _ => ⟨m, ws, pastD m ws, rfl, ?_⟩, rfl⟩, fun h => (by cases h), fun _ => ⟨m, p0, cl, rfl, by rw [ew], by rw [ew], rfl, pr cl, hat, fine_pr cl 8, fine_pr cl 8, fun h => ?_, fun _ => ⟨pr cl, hat, m, p0, cl, rfl, rfl, rfl, rfl, by rw [← ew]; exact hw, ?_⟩⟩⟩
        · show D.fine 9 (.lst (ws.map pr)) = true ∧ D.fine 9 (.lst (ws.map pr)) = true ∧ (!deq (.lst (ws.map pr)) (.lst (ws.map pr))) = false
          rw [deq_rfl]
          exact ⟨fine_web ws 7, fine_web ws 7, rfl⟩
        · rw [deq_rfl] at h
          cases h
        · refine ⟨ty_b, fun h => ?_, fun _ => ⟨x4, some (.sh (.int t)), some (.sh (.exc "BadWeb" (some none))), by subst ew; rfl⟩⟩
          rw [isT_b_bool] at h
          cases h
      · rintro env' ⟨x4, x5, x6, rfl⟩
        walk_at "dd"
        refine ⟨m, ws, pastD m ws, rfl, fine_web ws 7, fine_web ws 7, ?_⟩
        show Q (.sh (.bl (deq (.lst (ws.map pr)) (.lst (ws.map pr)))))
        rw [deq_rfl]
        exact hQ
end W

/-! KG: what is refused changes nothing (k11). -/
namespace W
open PySem L2
local macro_rules | `(tactic| walk_at "dd") => `(tactic| simp only [sRaise, sRaiseP, sCallX, sSetX, sTry, sTry2, sSeq, sAsg, sAsgG, sDrop, sRet, sRetN, sIf, sNext, sNever, sCont, sApp, sAppT, sIns, sPopAt, sShare, sAppAt, gT2, gX, mS, mN, mA, mT2, sPar3, bLz, qCh3, sPar, sExt, bLr1, bLr2, mPop, mPopAt, mIf, bCount, noIs_n, noIs_c, noI_i, noI_web, mkLst_d, mkTup_d, put_pr, fIx_pr, intsD, webD, mH, half_ows, half_ow, half_sh, half_lst1, half_lst1s, clean_lst1, sets_n, sets_c, List.map_cons, List.map_nil, bOp, bC_eq, bV0, bV1, mV0, mV1, fAdd_i, fAdd_l, fAdd_s, fAdd_t, fMul_i, fMul_l, fI0_eq, fI_eq, fIx_l, fIx_t, fIx_s, fEq_eq, fNe_eq, asB_eq, asI_eq, fLen_l, fLen_f, fLen_t, fLen_s, fList_l, fList_f, fList_t, fTuple_l, fTuple_t, fMax2_i, fMin2_i, fSl_l, fSl_f, fSl_s, fSlS_l, fSlS_t, isN_int, isN_str, isN_lst, isN_tup, isN_bl, isN_non, put_n, put_t2, put_p2, put_t3, d_sh, d_ow, d_tp, d_ows, ds_n, ds_c, hide_n, hide_cons, hideO_sh, hideO_ow, hideO_ows, hideO_tp, hideO_n, wipeE_n, wipeE_c, mkTup_0, mkTup_1, mkTup_2, mkTup_3, mkLst_0, mkLst_1, mkLst_2, mkLst_3, mkLst_4, isOw_ow, isOw_ows, shO_some, shO_none, clean_sh, clean_ow, clean_i, clean_b, clean_s, clean_n, clean_t, cleans_n, cleans_c, fine_i, fine_b, fine_n, deq_i, deq_b, deq_s, n0, n1, List.set_cons_zero, List.set_cons_succ, List.set_nil, Option.some.injEq, exists_eq_left', bCall, baC, baN, qVal, qAnd, qOr, qNot, qYes, bAnd, bOr, bNot, bCh, bIf, bTup, bLst, bSl, bSlS, boN, boS, bRev, bNeg, bIsi, biL, biT, bi1, bi2, bi3, biE, biZ, List.length_cons, List.length_nil, true_and, and_true, Bool.and_true, Bool.true_and, Bool.not_not, reduceCtorEq, false_implies, implies_true, true_implies, forall_const, Bool.not_true, Bool.not_false, Bool.false_or, Bool.true_or, Bool.or_false, Bool.or_true, Bool.and_false, Bool.false_and, tyN_i, isT_i_int, isT_i_bool, isT_i_list, isT_i_tuple, isT_i_str, tyN_b, isT_b_int, isT_b_bool, isT_b_list, isT_b_tuple, isT_b_str, tyN_n, isT_n_int, isT_n_bool, isT_n_list, isT_n_tuple, isT_n_str, tyN_s, isT_s_int, isT_s_bool, isT_s_list, isT_s_tuple, isT_s_str, tyN_l, isT_l_int, isT_l_bool, isT_l_list, isT_l_tuple, isT_l_str, tyN_t, isT_t_int, isT_t_bool, isT_t_list, isT_t_tuple, isT_t_str, tyN_f, isT_f_int, isT_f_bool, isT_f_list, isT_f_tuple, isT_f_str, fInt_i, fInt_b, bLenSet, bMeet, sSubA, tyN_d, isT_d_int, isT_d_bool, isT_d_list, isT_d_tuple, isT_d_str, bLines, bLaid, bPast, bnS_bn, bMeth0, isBn_bn, bMake, mMeth, bnAt_bn, dtAt_dt, sLaidApp, sPastApp, sDPutT, bDNew, sIfN, d_bn, d_dt, hideO_bn, hideO_dt, shO_bn, fSl_t, d_md, d_ol, d_ml, hideO_md, hideO_ol, hideO_ml2, clean_dt, clean_exc, mdS_md, mdN_md, mdN_mdn, bMLines, bMWeb, mOp, mIsi, mtVal, mtNot, mtOr, sIfT, mMeth0, sOlApp, mF])
def sp__law_refused : SpD := fun ds Q => ∃ (m : Nat) (cs : List (Nat × Nat)) (k : Int), ds = [.bn m (cs.map pr) (pastD m cs), .md m (cs.map pr), .int k] ∧ IsWeb m cs ∧ Q (.sh (.bl true))
abbrev n__law_refused : List Str := ["_law_bench", "_law_model", "_law_n", "_law_odd", "_law_e"]
def dt__law_refused : DS := sSeq (sAsg (.n 3) (mS (mN (bOp fIx (bLst (baC (bTup (baC (bC (.int 0)) (baC (bC (.int 0)) baN))) (baC (bTup (baC (bC (.int 0)) (baC (bMLines (bV 1)) baN))) (baC (bLst (baC (bC (.int 0)) (baC (bC (.int 1)) baN))) (baC (bC (.int 5)) (baC (bC (.str "")) (baC (bTup (baC (bC (.int 0)) baN)) (baC (bTup (baC (bC (.bl true)) (baC (bC (.int 0)) baN))) (baC (bTup (baC (bNeg (bC (.int 1))) (baC (bC (.int 0)) baN))) (baC (bTup (baC (bC (.int 0)) (baC (bC (.int 1)) (baC (bC (.int 2)) baN)))) (baC bDNew baN))))))))))) (bOp fMod (bV 2) (bC (.int 10))))))) (sSeq (sAsg (.n 4) (mS (mN (bCall sp__law_tried (baC (bV 0) (baC (bV 3) baN)))))) (sSeq (sIf (qOr (qVal (bOp fNe (bCall sp__law_word (baC (bV 4) baN)) (bC (.str "web")))) (qVal (bOp (fIsN true) (bPlace "BadWeb" (bV 4)) (bC .non)))) (sRet (mN (bC (.bl false)))) sNext) (sRet (mN (bOr (bOp fNe (bMWeb (bV 1)) (bLst baN)) (bOp fEq (bCall sp__law_word (baC (bCall sp__law_tried (baC (bV 0) (baC (bC .non) baN))) baN)) (bC (.str "nothing"))))))))

theorem l__law_refused : ∀ ds Q, sp__law_refused ds Q → ds.length = ["_law_bench", "_law_model", "_law_n"].length := by rintro ds Q ⟨_, _, _, rfl, _⟩; rfl
/-- what is put that is none -/
def oddL (m : Int) : List D := [.tup [.int 0, .int 0], .tup [.int 0, .int m], .lst [.int 0, .int 1], .int 5, .str "", .tup [.int 0], .tup [.bl true, .int 0], .tup [.int (-1), .int 0], .tup [.int 0, .int 1, .int 2], .dt []]
theorem among_hi (m : Int) : (D.int m).among 0 (m - 1) = false := by
  show (decide (0 ≤ m) && decide (m ≤ m - 1)) = false
  rw [decide_eq_false (by omega : ¬ m ≤ m - 1), Bool.and_false]
theorem odd_at (m k : Int) : ∃ d, atI (oddL m) (k % 10) = some d ∧ d.tyOk ∧ d ≠ .non ∧ d.cmpr m = false := by
  have h : k % 10 = 0 ∨ k % 10 = 1 ∨ k % 10 = 2 ∨ k % 10 = 3 ∨ k % 10 = 4 ∨ k % 10 = 5 ∨ k % 10 = 6 ∨ k % 10 = 7 ∨ k % 10 = 8 ∨ k % 10 = 9 := by omega
  have tt : ∀ xs : List D, (∀ x ∈ xs, x.ty ≠ "") → (D.tup xs).tyOk := fun xs hx => ⟨ty_t, fun ds e => by
    have e2 : xs = ds := by injection e
    rw [← e2]
    exact hx⟩
  have ni : ∀ i : Int, D.int i ≠ .non := fun i e => by cases e
  have nt : ∀ xs : List D, D.tup xs ≠ .non := fun i e => by cases e
  have t1 : (D.tup [.int 0]).tyOk := tt _ fun x hx => by
    rw [List.mem_singleton] at hx
    rw [hx]
    exact ty_i
  have t2 : ∀ x y : D, x.ty ≠ "" → y.ty ≠ "" → (D.tup [x, y]).tyOk := fun x y hx hy => tt _ fun z hz => by
    rcases List.mem_cons.mp hz with rfl | hz
    · exact hx
    · rw [List.mem_singleton] at hz
      rw [hz]
      exact hy
  have t3 : (D.tup [.int 0, .int 1, .int 2]).tyOk := tt _ fun z hz => by
    rcases List.mem_cons.mp hz with rfl | hz
    · exact ty_i
    · rcases List.mem_cons.mp hz with rfl | hz
      · exact ty_i
      · rw [List.mem_singleton] at hz
        rw [hz]
        exact ty_i
  have c2 : ∀ x y : D, (x.among 0 (m - 1) = false ∨ y.among 0 (m - 1) = false ∨ deq x y = true) → (D.tup [x, y]).cmpr m = false := fun x y hxy => by
    show (x.among 0 (m - 1) && y.among 0 (m - 1) && !deq x y) = false
    rcases hxy with e | e | e <;> rw [e] <;> simp
  rcases h with h | h | h | h | h | h | h | h | h | h <;> rw [h]
  · exact ⟨.tup [.int 0, .int 0], rfl, t2 _ _ ty_i ty_i, nt _, c2 _ _ (.inr (.inr (deq_rfl _)))⟩
  · exact ⟨.tup [.int 0, .int m], rfl, t2 _ _ ty_i ty_i, nt _, c2 _ _ (.inr (.inl (among_hi m)))⟩
  · exact ⟨.lst [.int 0, .int 1], rfl, ⟨ty_l, fun ds e => by cases e⟩, fun e => (by cases e), rfl⟩
  · exact ⟨.int 5, rfl, ⟨ty_i, fun ds e => by cases e⟩, ni _, rfl⟩
  · exact ⟨.str "", rfl, ⟨ty_s, fun ds e => by cases e⟩, fun e => (by cases e), rfl⟩
  · exact ⟨.tup [.int 0], rfl, t1, nt _, rfl⟩
  · exact ⟨.tup [.bl true, .int 0], rfl, t2 _ _ ty_b ty_i, nt _, c2 _ _ (.inl rfl)⟩
  · refine ⟨.tup [.int (-1), .int 0], rfl, t2 _ _ ty_i ty_i, nt _, c2 _ _ (.inl ?_)⟩
    show (decide ((0 : Int) ≤ -1) && decide ((-1 : Int) ≤ m - 1)) = false
    rw [decide_eq_false (by decide : ¬ (0 : Int) ≤ -1), Bool.false_and]
  · exact ⟨.tup [.int 0, .int 1, .int 2], rfl, t3, nt _, rfl⟩
  · exact ⟨.dt [], rfl, ⟨ty_d, fun ds e => by cases e⟩, fun e => (by cases e), rfl⟩
theorem mkLst_odd (m : Int) : (mkLst [.sh (.tup [.int 0, .int 0]), .sh (.tup [.int 0, .int m]), .ow [.int 0, .int 1], .sh (.int 5), .sh (.str ""), .sh (.tup [.int 0]), .sh (.tup [.bl true, .int 0]), .sh (.tup [.int (-1), .int 0]), .sh (.tup [.int 0, .int 1, .int 2]), .dt []]).d = .lst (oddL m) := rfl
theorem d__law_refused : ∀ ds Q, sp__law_refused ds Q → dt__law_refused (ends0 Q) (env0 n__law_refused.length ds) := by
  rintro ds Q ⟨m, cs, k, rfl, hw, hQ⟩
  show dt__law_refused (ends0 Q) [some (.sh (.bn m (cs.map pr) (pastD m cs))), some (.sh (.md m (cs.map pr))), some (.sh (.int k)), none, none]
  unfold dt__law_refused
  unfold bPlace
  simp only [sSeq, sAsg, mS, mN, bOp, bLst, baC, baN, bTup, bC_eq, bMLines, bNeg, bDNew, bV0, bV1, hide_cons, hide_n, hideO_sh, hideO_n, d_sh, mdN_md, asI_eq, mkTup_1, mkTup_2, mkTup_3, mkLst_2]
  rw [mkLst_odd]
  walk_at "dd"
  obtain ⟨d, hd, t1, t2, t3⟩ := odd_at m k
  refine ⟨by decide, by decide, by decide, by decide, by decide, by decide, by decide, by decide, by decide, d, hd, .inl ⟨m, cs, pastD m cs, d, rfl, t1, t2, .inl t3, .inr ⟨"BadWeb", some none, rfl, by decide +kernel, ?_⟩⟩⟩
  rw [word_web]
  have e : deq (T.sh (.str "web")).d (.str (Str.ofString "web")) = true := deq_rfl _
  dsimp only
  rw [e]
  refine ⟨by decide +kernel, by decide +kernel, false, fun _ => ⟨rfl, rfl⟩, fun h => (by cases h), fun _ => ⟨by decide, fine_web cs 7, rfl, true, fun h => ?_, ?_⟩⟩
  · rw [deq_lnil, Bool.not_eq_false'] at h
    have h0 : cs = [] := by simpa using h
    subst h0
    refine .inr ⟨m, pastD m [], rfl, .inr ⟨"NothingPut", none, rfl, by decide +kernel, ?_⟩⟩
    rw [word_nothing]
    exact ⟨by decide +kernel, by decide +kernel, deq_rfl _⟩
  · rw [Bool.or_true]
    exact hQ
end W

/-! KL: the law k11. -/
namespace W
open PySem L2
local macro_rules | `(tactic| walk_at "dd") => `(tactic| simp only [sRaise, sRaiseP, sCallX, sSetX, sTry, sTry2, sSeq, sAsg, sAsgG, sDrop, sRet, sRetN, sIf, sNext, sNever, sCont, sApp, sAppT, sIns, sPopAt, sShare, sAppAt, gT2, gX, mS, mN, mA, mT2, sPar3, bLz, qCh3, sPar, sExt, bLr1, bLr2, mPop, mPopAt, mIf, bCount, noIs_n, noIs_c, noI_i, noI_web, mkLst_d, mkTup_d, put_pr, fIx_pr, intsD, webD, mH, half_ows, half_ow, half_sh, half_lst1, half_lst1s, clean_lst1, sets_n, sets_c, List.map_cons, List.map_nil, bOp, bC_eq, bV0, bV1, mV0, mV1, fAdd_i, fAdd_l, fAdd_s, fAdd_t, fMul_i, fMul_l, fI0_eq, fI_eq, fIx_l, fIx_t, fIx_s, fEq_eq, fNe_eq, asB_eq, asI_eq, fLen_l, fLen_f, fLen_t, fLen_s, fList_l, fList_f, fList_t, fTuple_l, fTuple_t, fMax2_i, fMin2_i, fSl_l, fSl_f, fSl_s, fSlS_l, fSlS_t, isN_int, isN_str, isN_lst, isN_tup, isN_bl, isN_non, put_n, put_t2, put_p2, put_t3, d_sh, d_ow, d_tp, d_ows, ds_n, ds_c, hide_n, hide_cons, hideO_sh, hideO_ow, hideO_ows, hideO_tp, hideO_n, wipeE_n, wipeE_c, mkTup_0, mkTup_1, mkTup_2, mkTup_3, mkLst_0, mkLst_1, mkLst_2, mkLst_3, mkLst_4, isOw_ow, isOw_ows, shO_some, shO_none, clean_sh, clean_ow, clean_i, clean_b, clean_s, clean_n, clean_t, cleans_n, cleans_c, fine_i, fine_b, fine_n, deq_i, deq_b, deq_s, n0, n1, List.set_cons_zero, List.set_cons_succ, List.set_nil, Option.some.injEq, exists_eq_left', bCall, baC, baN, qVal, qAnd, qOr, qNot, qYes, bAnd, bOr, bNot, bCh, bIf, bTup, bLst, bSl, bSlS, boN, boS, bRev, bNeg, bIsi, biL, biT, bi1, bi2, bi3, biE, biZ, List.length_cons, List.length_nil, true_and, and_true, Bool.and_true, Bool.true_and, Bool.not_not, reduceCtorEq, false_implies, implies_true, true_implies, forall_const, Bool.not_true, Bool.not_false, Bool.false_or, Bool.true_or, Bool.or_false, Bool.or_true, Bool.and_false, Bool.false_and, tyN_i, isT_i_int, isT_i_bool, isT_i_list, isT_i_tuple, isT_i_str, tyN_b, isT_b_int, isT_b_bool, isT_b_list, isT_b_tuple, isT_b_str, tyN_n, isT_n_int, isT_n_bool, isT_n_list, isT_n_tuple, isT_n_str, tyN_s, isT_s_int, isT_s_bool, isT_s_list, isT_s_tuple, isT_s_str, tyN_l, isT_l_int, isT_l_bool, isT_l_list, isT_l_tuple, isT_l_str, tyN_t, isT_t_int, isT_t_bool, isT_t_list, isT_t_tuple, isT_t_str, tyN_f, isT_f_int, isT_f_bool, isT_f_list, isT_f_tuple, isT_f_str, fInt_i, fInt_b, bLenSet, bMeet, sSubA, tyN_d, isT_d_int, isT_d_bool, isT_d_list, isT_d_tuple, isT_d_str, bLines, bLaid, bPast, bnS_bn, bMeth0, isBn_bn, bMake, mMeth, bnAt_bn, dtAt_dt, sLaidApp, sPastApp, sDPutT, bDNew, sIfN, d_bn, d_dt, hideO_bn, hideO_dt, shO_bn, fSl_t, d_md, d_ol, d_ml, hideO_md, hideO_ol, hideO_ml2, clean_dt, clean_exc, mdS_md, mdN_md, mdN_mdn, bMLines, bMWeb, mOp, mIsi, mtVal, mtNot, mtOr, sIfT, mMeth0, sOlApp, mF])
def sp_law : SpD := fun ds Q => ∃ ns : List Int, ds = [.flst (ns.map .int)] ∧ Q (.sh (.bl true))
abbrev n_law : List Str := ["_law_script", "_law_n", "_law_models", "_law_benches", "_law_held", "_law_k", "_law_cell", "_law_more", "_law_at", "_law_model", "_law_pair"]
def dt_law : DS := sSeq (sAsg (.n 1) (mS (mN (bCall sp__law_draw (baC (bCall fSum (baC (bSl (bV 0) boN (boS (bC (.int 5)))) baN)) (baC (bC (.int 4)) (baC (bC (.int 101)) baN))))))) (sSeq (sIf (qAnd (qVal (bOp fEq (bOp fMod (bOp fDiv (bV 1) (bC (.int 100))) (bC (.int 8))) (bC (.int 1)))) (qNot (qVal (bCall sp__law_full (baC (bOp fAdd (bC (.int 2)) (bOp fMod (bV 1) (bC (.int 2)))) (baC (bV 1) baN)))))) (sRet (mN (bC (.bl false)))) sNext) (sSeq (sAsg (.n 2) (mN (bLst (baC (bMd (bOp fAdd (bC (.int 2)) (bOp fMod (bV 1) (bC (.int 4))))) (baC (bMd (bOp fAdd (bC (.int 1)) (bOp fMod (bOp fDiv (bV 1) (bC (.int 4))) (bC (.int 6))))) baN))))) (sMl 2 (sSeq (sAsg (.n 3) (mN (bLcR (biL (bV 2)) (.n 9) qYes (bMake sp_Bench_init (bMLines (bV 9))) [9]))) (sSeq (sAsg (.n 4) (mN (bLst baN))) (sSeq (sFor (biE (bSl (bV 0) boN (boS (bC (.int 63))))) (.t [5, 6]) (sSeq (sAsg (.n 7) (mS (mN (bCall sp__law_draw (baC (bV 6) (baC (bV 5) (baC (bC (.int 102)) baN))))))) (sSeq (sAsg (.n 8) (mS (mN (bCall fInt (baC (bOp fEq (bOp fMod (bV 7) (bC (.int 4))) (bC (.int 1))) baN))))) (sSeq (sIf (qAnd (qVal (bOp fEq (bOp fMod (bOp fDiv (bV 7) (bC (.int 4))) (bC (.int 7))) (bC (.int 1)))) (qNot (qVal (bCall sp__law_refused (baC (bOp fIx (bV 3) (bV 8)) (baC (bOp fIx (bV 2) (bV 8)) (baC (bOp fDiv (bV 7) (bC (.int 28))) baN))))))) (sRet (mN (bC (.bl false)))) sNext) (sSeq (sIfT (mtNot (mtVal (mProcD spp__law_deed 3 (bV 8) 2 (bV 8) (bV 6) (bV 5)))) (sRet (mN (bC (.bl false)))) sNext) (sSeq (sIfT (mtNot (mtVal (mProcV spp__law_asked 3 (bV 8) 2 (bV 8) (bOp fDiv (bV 7) (bC (.int 30))) 4))) (sRet (mN (bC (.bl false)))) sNext) (sIf (qVal (bOp fNe (bMeth0 sp_Bench_comparers (bOp fIx (bV 3) (bOp fSub (bC (.int 1)) (bV 8)))) (bMWeb (bOp fIx (bV 2) (bOp fSub (bC (.int 1)) (bV 8)))))) (sRet (mN (bC (.bl false)))) sNext))))))) (sShare 4 (sSeq (sRet (mN (bOp fEq (bLc (biL (bV 4)) (.n 10) (qVal (bOp fNe (bOp fIx (bV 10) (bC (.int 0))) (bOp fIx (bV 10) (bC (.int 1))))) (bV 10) [10]) (bLst baN)))) sNext))))))))

theorem l_law : ∀ ds Q, sp_law ds Q → ds.length = ["_law_script"].length := by rintro ds Q ⟨_, rfl, _⟩; rfl
/-- the law between two cells -/
def LawE (S : D) (n : Int) (m0 m1 : Nat) (j : Nat) (env : List (Option T)) : Prop := ∃ (a b c d : Addr) (cs0 cs1 : List (Nat × Nat)) (hs : List (List (Nat × Nat))) (x5 x6 x7 x8 : Option T),
  env = [some (.sh S), some (.sh (.int n)), some (.ml [.md a m0 (cs0.map pr), .md b m1 (cs1.map pr)]), some (.ows [.bn c m0 (cs0.map pr) (pastD m0 cs0), .bn d m1 (cs1.map pr) (pastD m1 cs1)]), some (.ow (hs.map heldD)), x5, x6, x7, x8, none, none] ∧ IsWeb m0 cs0 ∧ IsWeb m1 cs1 ∧ hs.length ≤ 3 * j
theorem d_law : ∀ ds Q, sp_law ds Q → dt_law (ends0 Q) (env0 n_law.length ds) := by
  rintro ds Q ⟨ns, rfl, hQ⟩
  show dt_law (ends0 Q) [some (.sh (.flst (ns.map .int))), none, none, none, none, none, none, none, none, none, none]
  unfold dt_law
  walk_at "dd"
  rw [show cutD (ns.map D.int) none (some 5) = (ns.take 5).map D.int by rw [cut_map]; exact congrArg _ (cut_to ns 5)]
  refine ⟨_, rfl, _, 4, 101, rfl, ⟨by omega, by omega, by decide, by decide⟩, ?_⟩
  have n0 := draw_lo (ns.take 5).sum 4 101
  generalize draw (ns.take 5).sum 4 101 = n at n0 ⊢
  walk_at "dd"
  refine ⟨⟨by decide, by decide⟩, by decide, false, fun _ => ⟨by decide, (2 + n % 2).toNat, n, by rw [Int.toNat_of_nonneg (by omega)], by omega, by omega, rfl⟩, fun h => ?_, fun _ => ?_⟩
  · rw [Bool.and_false] at h
    cases h
  obtain ⟨m0, e0, lo0, hi0⟩ : ∃ m0 : Nat, 2 + n % 4 = m0 ∧ 1 ≤ m0 ∧ m0 ≤ 6 := ⟨(2 + n % 4).toNat, by omega, by omega, by omega⟩
  obtain ⟨m1, e1, lo1, hi1⟩ : ∃ m1 : Nat, 1 + n / 4 % 6 = m1 ∧ 1 ≤ m1 ∧ m1 ≤ 6 := ⟨(1 + n / 4 % 6).toNat, by omega, by omega, by omega⟩
  unfold bMd
  walk_at "dd"
  refine ⟨by decide, m0, by rw [e0], fun a => ⟨⟨by decide, by decide⟩, by decide, m1, by rw [e1], fun b => ⟨by decide, ?_⟩⟩⟩
  rw [mkLst_md2]
  unfold sMl
  refine ⟨_, rfl, ?_⟩
  unfold bLcR
  walk_at "dd"
  refine ⟨by decide, Nat, [m0, m1], fun x => D.mdn x, fun x t => ∃ c, t = .bn c x [] (pastD x []), rfl, fun x hx => ?_, fun ts hts => ⟨by decide, ?_⟩⟩
  · have hb : 1 ≤ x ∧ x ≤ 6 := by
      rcases List.mem_cons.mp hx with rfl | hx
      · exact ⟨lo0, hi0⟩
      · rw [List.mem_singleton] at hx
        subst hx
        exact ⟨lo1, hi1⟩
    exact ⟨x, rfl, x, rfl, hb.1, by omega, fun c => ⟨c, rfl⟩⟩
  obtain ⟨t, u, rfl, ⟨c, rfl⟩, ⟨d, rfl⟩⟩ := hts.two
  have hcut : cutD (ns.map D.int) none (some 63) = (ns.take 63).map .int := by rw [cut_map]; exact congrArg _ (cut_to ns 63)
  have h63 : (ns.take 63).length ≤ 63 := by rw [List.length_take]; omega
  generalize ns.take 63 = cells at hcut h63
  have w0 : IsWeb m0 [] := ⟨lo0, by omega, by decide, fun c m => (by cases m)⟩
  have w1 : IsWeb m1 [] := ⟨lo1, by omega, by decide, fun c m => (by cases m)⟩
  refine sFor_mk cells.zipIdx (fun p => .tup [.int p.2, .int p.1]) (fun ps env => LawE (.flst (ns.map .int)) n m0 m1 ps.length env) (fun R h => ?_) ⟨a, b, c, d, [], [], [], none, none, none, none, rfl, w0, w1, Nat.le_refl _⟩ ?_ ?_
  · show biE (bSl (bV 0) boN (boS (bC (D.int 63)))) (hide [some (.sh (.flst (ns.map .int))), some (.sh (.int n)), _, _, _, _, _, _, _, _, _]) R
    walk_at "dd"
    rw [hcut, enumF_map]
    exact h
  · rintro N ps p qs env' hx ⟨a, b, c, d, cs0, cs1, hs, x5, x6, x7, x8, rfl, hw0, hw1, hl⟩
    have hp := zip_mem2 hx
    have hps : ps.length < 63 := by
      have := congrArg List.length hx
      rw [List.length_zipIdx, List.length_append, List.length_cons] at this
      omega
    refine ⟨_, rfl, ?_⟩
    walk_at "dd"
    refine ⟨p.1, p.2, 102, rfl, ⟨by omega, by omega, by decide, by decide⟩, ?_⟩
    have g0 := draw_lo p.1 p.2 102
    generalize draw p.1 p.2 102 = g at g0 ⊢
    unfold mProcD mProcV
    walk_at "dd"
    rcases Decidable.em (g % 4 = 1) with hat | hat
    · have e8 : (if decide (g % 4 = 1) = true then (1 : Int) else 0) = 1 := by rw [decide_eq_true hat]; rfl
      rw [e8]
      refine ⟨by decide, ⟨by decide, by decide⟩, by decide, false, fun _ => ⟨_, rfl, _, rfl, ⟨by decide, by decide⟩, m1, cs1, g / 28, rfl, hw1, rfl⟩, fun h => (by rw [Bool.and_false] at h; cases h), fun _ => ⟨_, _, by decide, rfl, rfl, 1, _, rfl, rfl, 1, _, rfl, rfl, d, m1, cs1, b, p.1, p.2, rfl, hw1, by omega, by omega, fun cs' hw' => ⟨_, _, rfl, ?_⟩⟩⟩
      walk_at "dd"
      refine ⟨_, _, _, by decide, by decide, by decide, rfl, rfl, rfl, 1, _, rfl, rfl, 1, _, rfl, rfl, ⟨by decide, by decide⟩, fun l => ⟨d, m1, cs', b, g / 30, l, hs, rfl, hw', by omega, by omega, fun hs' hl' => ⟨_, _, _, rfl, ?_⟩⟩⟩
      walk_at "dd"
      refine ⟨_, rfl, rfl, m0, cs0, pastD m0 cs0, rfl, _, rfl, fine_web cs0 7, fine_web cs0 7, fun h => ?_, fun _ => ⟨a, b, c, d, cs0, cs', hs ++ hs', _, _, _, _, rfl, hw0, hw', by rw [List.length_append, List.length_append, List.length_singleton]; omega⟩⟩
      have e : deq (T.ow (cs0.map pr)).d (.lst (cs0.map pr)) = true := deq_rfl _
      rw [e] at h
      cases h
    · have e8 : (if decide (g % 4 = 1) = true then (1 : Int) else 0) = 0 := by rw [decide_eq_false hat]; rfl
      rw [e8]
      refine ⟨by decide, ⟨by decide, by decide⟩, by decide, false, fun _ => ⟨_, rfl, _, rfl, ⟨by decide, by decide⟩, m0, cs0, g / 28, rfl, hw0, rfl⟩, fun h => (by rw [Bool.and_false] at h; cases h), fun _ => ⟨_, _, by decide, rfl, rfl, 0, _, rfl, rfl, 0, _, rfl, rfl, c, m0, cs0, a, p.1, p.2, rfl, hw0, by omega, by omega, fun cs' hw' => ⟨_, _, rfl, ?_⟩⟩⟩
      walk_at "dd"
      refine ⟨_, _, _, by decide, by decide, by decide, rfl, rfl, rfl, 0, _, rfl, rfl, 0, _, rfl, rfl, ⟨by decide, by decide⟩, fun l => ⟨c, m0, cs', a, g / 30, l, hs, rfl, hw', by omega, by omega, fun hs' hl' => ⟨_, _, _, rfl, ?_⟩⟩⟩
      walk_at "dd"
      refine ⟨_, rfl, rfl, m1, cs1, pastD m1 cs1, rfl, _, rfl, fine_web cs1 7, fine_web cs1 7, fun h => ?_, fun _ => ⟨a, b, c, d, cs', cs1, hs ++ hs', _, _, _, _, rfl, hw', hw1, by rw [List.length_append, List.length_append, List.length_singleton]; omega⟩⟩
      have e : deq (T.ow (cs1.map pr)).d (.lst (cs1.map pr)) = true := deq_rfl _
      rw [e] at h
      cases h
  · rintro env' ⟨a, b, c, d, cs0, cs1, hs, x5, x6, x7, x8, rfl, hw0, hw1, hl⟩
    unfold bLc
    walk_at "dd"
    have hz : hs.length ≤ 189 := by rw [List.length_zipIdx] at hl; omega
    refine ⟨by rw [List.length_map]; omega, _, hs, heldD, fun _ => none, rfl, fun x _ => ?_, by decide, ?_, rfl, ?_⟩
    · unfold heldD
      refine ⟨_, rfl, _, rfl, fine_web x 7, fine_web x 7, fun h => ?_, fun _ => rfl⟩
      have e : deq (T.sh (webD x)).d (T.sh (webD x)).d = true := deq_rfl _
      rw [e] at h
      cases h
    · have e : List.filterMap (fun _ : List (Nat × Nat) => (none : Option D)) hs = [] := by simp
      rw [e]
      rfl
    · have e : List.filterMap (fun _ : List (Nat × Nat) => (none : Option D)) hs = [] := by simp
      rw [e, deq_rfl]
      exact hQ
end W

namespace W
open PySem L2
def top (i : Nat) : Stmt := PySem.Challenge.pw_sortweb_k11_a_bench_by_deeds.main.body.getD i (.Pass ⟨0, 0, 0, 0⟩)
abbrev s_is_whole : Stmt := top 12
abbrev s_is_among : Stmt := top 13
abbrev s_is_comparer : Stmt := top 14
abbrev s_need_lines : Stmt := top 15
abbrev s_passed : Stmt := top 17
abbrev s_is_rising : Stmt := top 18
abbrev s_bare_rows : Stmt := top 20
abbrev s_put_through : Stmt := top 22
abbrev s_Bench_init : Stmt := inClass (top 23) 0
abbrev s_Bench_put : Stmt := inClass (top 23) 1
abbrev s_Bench_take_back : Stmt := inClass (top 23) 2
abbrev s_Bench_comparers : Stmt := inClass (top 23) 3
abbrev s_Bench_many : Stmt := inClass (top 23) 4
abbrev s_Bench_wild : Stmt := inClass (top 23) 5
abbrev s__law_draw : Stmt := top 25
abbrev s__law_gone : Stmt := top 26
abbrev s__law_bare : Stmt := top 27
abbrev s__law_is_bare : Stmt := top 28
abbrev s__law_is_web : Stmt := top 29
abbrev s__law_word : Stmt := top 30
abbrev s__law_tried : Stmt := top 31
abbrev s__law_ends : Stmt := top 32
abbrev s__law_asked : Stmt := top 33
abbrev s__law_deed : Stmt := top 34
abbrev s__law_refused : Stmt := top 35
abbrev s__law_full : Stmt := top 36
abbrev s_law : Stmt := top 37
abbrev FunP (K : PySem.W.Frag) (x : Str) (st : Stmt) (f : Addr) (fd : FuncData) : Prop := FunD K x x (defArgs st) (defBody st) (defScope st) [] [] f fd
section
variable {P : Program} {w : PySem.World} {K : PySem.W.Frag} {mg : Str → Option Value} {base : Heap}
theorem sc_is_whole : FnScope n_is_whole ["thing"] (defScope s_is_whole) := ⟨rfl, rfl, rfl, by decide +kernel, rfl, by decide +kernel, by decide +kernel⟩
theorem ok_is_whole {k : Nat} {f : Addr} {fd : FuncData} (F : FunP K "is_whole" s_is_whole f fd) (hm : mg "is_whole" = some (.ref f)) (G : Gs mg) : CalD P w K mg base (k + 1) "is_whole" sp_is_whole :=
  cal_mk F hm (F.bindsN fun _ _ _ _ _ _ us hl => match us, hl with | [_], _ => rfl) sc_is_whole l_is_whole (fun cdv A outer s H E hr => (s_one (s_ret (m_n (b_and (b_isi (x := "int") G.isinstance rfl (pe_bltn rfl G.int bt_int rfl) (by decide) (b_v 0)) (b_one (b_not (b_isi (x := "bool") G.isinstance rfl (pe_bltn rfl G.bool bt_bool rfl) (by decide) (b_v 0))))))))) d_is_whole
theorem sc_is_among : FnScope n_is_among ["thing", "least", "most"] (defScope s_is_among) := ⟨rfl, rfl, rfl, by decide +kernel, rfl, by decide +kernel, by decide +kernel⟩
theorem ok_is_among {k : Nat} {f : Addr} {fd : FuncData} (F : FunP K "is_among" s_is_among f fd) (hm : mg "is_among" = some (.ref f)) (G : Gs mg) (c_is_whole : CalD P w K mg base k "is_whole" sp_is_whole) : CalD P w K mg base (k + 1) "is_among" sp_is_among :=
  cal_mk F hm (F.bindsN fun _ _ _ _ _ _ us hl => match us, hl with | [_, _, _], _ => rfl) sc_is_among l_is_among (fun cdv A outer s H E hr => (s_one (s_ret (m_n (b_and (b_call c_is_whole hr rfl (a_cons (b_v 0) a_nil)) (b_one (b_chain o_le o_le (b_v 1) (b_v 0) (b_v 2)))))))) d_is_among
theorem sc_is_comparer : FnScope n_is_comparer ["thing", "lines"] (defScope s_is_comparer) := ⟨rfl, rfl, rfl, by decide +kernel, rfl, by decide +kernel, by decide +kernel⟩
theorem ok_is_comparer {k : Nat} {f : Addr} {fd : FuncData} (F : FunP K "is_comparer" s_is_comparer f fd) (hm : mg "is_comparer" = some (.ref f)) (G : Gs mg) (c_is_among : CalD P w K mg base k "is_among" sp_is_among) : CalD P w K mg base (k + 1) "is_comparer" sp_is_comparer :=
  cal_mk F hm (F.bindsN fun _ _ _ _ _ _ us hl => match us, hl with | [_, _], _ => rfl) sc_is_comparer l_is_comparer (fun cdv A outer s H E hr => (s_seq (s_if (q_w (w_or (q_not (q_val (b_isi (x := "tuple") G.isinstance rfl (pe_bltn rfl G.tuple bt_tuple rfl) (by decide) (b_v 0)))) (w_or1 (q_cmp (o_ne hr.units) (b_blt c_len G.len rfl bt_len (a_cons (b_v 0) a_nil)) b_int (nomark _))))) (s_one (s_ret (m_n b_bl))) s_nil) (s_one (s_ret (m_n (b_and (b_call c_is_among hr rfl (a_cons (b_ix (b_v 0) b_int) (a_cons b_int (a_cons (b_op o_sub (b_v 1) b_int) a_nil)))) (b_and (b_call c_is_among hr rfl (a_cons (b_ix (b_v 0) b_int) (a_cons b_int (a_cons (b_op o_sub (b_v 1) b_int) a_nil)))) (b_one (b_cmp (o_ne hr.units) (b_ix (b_v 0) b_int) (b_ix (b_v 0) b_int) (nomark _)))))))))) d_is_comparer
theorem sc_need_lines : FnScope n_need_lines ["lines"] (defScope s_need_lines) := ⟨rfl, rfl, rfl, by decide +kernel, rfl, by decide +kernel, by decide +kernel⟩
theorem ok_need_lines {k : Nat} {f : Addr} {fd : FuncData} (F : FunP K "need_lines" s_need_lines f fd) (hm : mg "need_lines" = some (.ref f)) (G : Gs mg) (c_is_among : CalD P w K mg base k "is_among" sp_is_among) (g_MOST_LINES : ∃ t, mg "MOST_LINES" = some (.int 10 t)) : CalD P w K mg base (k + 1) "need_lines" sp_need_lines :=
  cal_mk F hm (F.bindsN fun _ _ _ _ _ _ us hl => match us, hl with | [_], _ => rfl) sc_need_lines l_need_lines (fun cdv A outer s H E hr => (s_one (s_if (q_not (q_val (b_call c_is_among hr rfl (a_cons (b_v 0) (a_cons b_int (a_cons (b_gi g_MOST_LINES rfl) a_nil)))))) (s_one s_never) s_nil))) d_need_lines
theorem sc_passed : FnScope n_passed ["row", "comparer"] (defScope s_passed) := ⟨rfl, rfl, rfl, by decide +kernel, rfl, by decide +kernel, by decide +kernel⟩
theorem ok_passed {k : Nat} {f : Addr} {fd : FuncData} (F : FunP K "passed" s_passed f fd) (hm : mg "passed" = some (.ref f)) (G : Gs mg) : CalD P w K mg base (k + 1) "passed" sp_passed :=
  cal_mk F hm (F.bindsN fun _ _ _ _ _ _ us hl => match us, hl with | [_, _], _ => rfl) sc_passed l_passed (fun cdv A outer s H E hr => (s_seq (s_asg (m_s (m_n (b_v 1))) (t_t (js := [3, 4]) rfl (pgs_cons (pg_name (i := 3) sc_passed.nd rfl (by first | exact Or.inl rfl | exact Or.inr rfl)) (pgs_cons (pg_name (i := 4) sc_passed.nd rfl (by first | exact Or.inl rfl | exact Or.inr rfl)) pgs_nil)))) (s_seq (s_set (i := 2) (m_n (b_bty c_list G.list rfl bt_list (a_cons (b_v 0) a_nil))) sc_passed.nd rfl (by first | exact Or.inl rfl | exact Or.inr rfl)) (s_cut (s_if (q_cmp o_gt (b_ix (b_v 2) (b_v 3)) (b_ix (b_v 2) (b_v 4)) (nomark _)) (s_one (s_asgG (m_a (b_tup (a_cons (b_ix (b_v 2) (b_v 4)) (a_cons (b_ix (b_v 2) (b_v 3)) a_nil)))) (g_t2 rfl (g_x 2 (m_n (b_v 3))) (g_x 2 (m_n (b_v 4)))))) s_nil) (s_one (s_ret (m_v 2))))))) d_passed
theorem sc_is_rising : FnScope n_is_rising ["row"] (defScope s_is_rising) := ⟨rfl, rfl, rfl, by decide +kernel, rfl, by decide +kernel, by decide +kernel⟩
theorem ok_is_rising {k : Nat} {f : Addr} {fd : FuncData} (F : FunP K "is_rising" s_is_rising f fd) (hm : mg "is_rising" = some (.ref f)) (G : Gs mg) : CalD P w K mg base (k + 1) "is_rising" sp_is_rising :=
  cal_mk F hm (F.bindsN fun _ _ _ _ _ _ us hl => match us, hl with | [_], _ => rfl) sc_is_rising l_is_rising (fun cdv A outer s H E hr => (s_one (s_ret (m_n (b_blt (c_all rfl) G.all rfl bt_all (a_cons (b_lc (own := [("one", 1), ("other", 2)]) rfl sc_is_rising.nd  (i_zip G.zip rfl (a_cons (b_v 0) (a_cons (b_slice (b_v 0) (bo_some b_int) bo_none) a_nil))) (blkOk_by (own := [("one", 1), ("other", 2)]) (N := n_is_rising) (sc := defScope s_is_rising) (by decide +kernel)) (fun _ _ _ _ _ => (t_t (js := [1, 2]) rfl (pgs_cons (pg_name (i := 1) sc_is_rising.nd rfl (by first | exact Or.inl rfl | exact Or.inr rfl)) (pgs_cons (pg_name (i := 2) sc_is_rising.nd rfl (by first | exact Or.inl rfl | exact Or.inr rfl)) pgs_nil)))) (fun _ _ _ _ _ => l_nil) (fun _ _ _ _ _ => (b_cmp o_le (b_v 1) (b_v 2) (nomark _)))) a_nil)))))) d_is_rising
theorem sc_bare_rows : FnScope n_bare_rows ["lines"] (defScope s_bare_rows) := ⟨rfl, rfl, rfl, by decide +kernel, rfl, by decide +kernel, by decide +kernel⟩
theorem ok_bare_rows {k : Nat} {f : Addr} {fd : FuncData} (F : FunP K "bare_rows" s_bare_rows f fd) (hm : mg "bare_rows" = some (.ref f)) (G : Gs mg) : CalD P w K mg base (k + 1) "bare_rows" sp_bare_rows :=
  cal_mk F hm (F.bindsN fun _ _ _ _ _ _ us hl => match us, hl with | [_], _ => rfl) sc_bare_rows l_bare_rows (fun cdv A outer s H E hr => (s_seq (s_set (i := 1) (m_s (m_n (b_lst (a_cons (b_lst a_nil) a_nil)))) sc_bare_rows.nd rfl (by first | exact Or.inl rfl | exact Or.inr rfl)) (s_seq (s_for PassesOwn.never rfl (i_rng1 G.range rfl (a_cons (b_v 0) a_nil)) (t_n sc_bare_rows.nd rfl (by first | exact Or.inl rfl | exact Or.inr rfl)) (s_one (s_set (i := 1) (m_s (m_n (b_op o_add (b_lc (own := [("row", 3)]) rfl sc_bare_rows.nd  (i_list (b_v 1)) (blkOk_by (own := [("row", 3)]) (N := n_bare_rows) (sc := defScope s_bare_rows) (by decide +kernel)) (fun _ _ _ _ _ => (t_n sc_bare_rows.nd rfl (by first | exact Or.inl rfl | exact Or.inr rfl))) (fun _ _ _ _ _ => l_nil) (fun _ _ _ _ _ => (b_op o_add (b_v 3) (b_lst (a_cons b_int a_nil))))) (b_lc (own := [("row", 3)]) rfl sc_bare_rows.nd  (i_list (b_v 1)) (blkOk_by (own := [("row", 3)]) (N := n_bare_rows) (sc := defScope s_bare_rows) (by decide +kernel)) (fun _ _ _ _ _ => (t_n sc_bare_rows.nd rfl (by first | exact Or.inl rfl | exact Or.inr rfl))) (fun _ _ _ _ _ => l_nil) (fun _ _ _ _ _ => (b_op o_add (b_v 3) (b_lst (a_cons b_int a_nil)))))))) sc_bare_rows.nd rfl (by first | exact Or.inl rfl | exact Or.inr rfl)))) (s_one (s_ret (m_v 1)))))) d_bare_rows
theorem sc_put_through : FnScope n_put_through ["rows", "comparer"] (defScope s_put_through) := ⟨rfl, rfl, rfl, by decide +kernel, rfl, by decide +kernel, by decide +kernel⟩
theorem ok_put_through {k : Nat} {f : Addr} {fd : FuncData} (F : FunP K "put_through" s_put_through f fd) (hm : mg "put_through" = some (.ref f)) (G : Gs mg) (c_passed : CalD P w K mg base k "passed" sp_passed) : CalD P w K mg base (k + 1) "put_through" sp_put_through :=
  cal_mk F hm (F.bindsN fun _ _ _ _ _ _ us hl => match us, hl with | [_, _], _ => rfl) sc_put_through l_put_through (fun cdv A outer s H E hr => (s_seq (s_set (i := 2) (m_n b_dnew) sc_put_through.nd rfl (by first | exact Or.inl rfl | exact Or.inr rfl)) (s_seq (s_for PassesOwn.never rfl (i_list (b_v 0)) (t_n sc_put_through.nd rfl (by first | exact Or.inl rfl | exact Or.inr rfl)) (s_one (s_dputT 2 hr.un1 G.tuple rfl (b_call c_passed hr rfl (a_cons (b_v 3) (a_cons (b_v 1) a_nil)))))) (s_share 2 (s_seq (s_ret (m_n (b_bty (c_listDT rfl) G.list rfl bt_list (a_cons (b_v 2) a_nil)))) s_nil))))) d_put_through
theorem sc_Bench_init : FnScope n_Bench_init ["self", "lines"] (defScope s_Bench_init) := ⟨rfl, rfl, rfl, by decide +kernel, rfl, by decide +kernel, by decide +kernel⟩
theorem ok_Bench_init {k : Nat} {fd : FuncData} (F : FunD K "__init__" "Bench.__init__" (defArgs s_Bench_init) (defBody s_Bench_init) (defScope s_Bench_init) [] [] (He.ma K (He.ga K "Bench") "__init__") fd) (M : Mk K (He.ga K "Bench") (He.ma K (He.ga K "Bench") "__init__")) (G : Gs mg) (c_need_lines : CalD P w K mg base k "need_lines" sp_need_lines) (c_bare_rows : CalD P w K mg base k "bare_rows" sp_bare_rows) (BN : BnC K mg) : MakeB P w K mg base (k + 1) sp_Bench_init :=
  make_mk (m := 1) F M (F.bindsN fun _ _ _ _ _ _ us hl => match us, hl with | [_, _], _ => rfl) sc_Bench_init rfl rfl (fun cdv A outer s H E hr => ps_init 1 BN (b_call c_need_lines hr rfl (a_cons (b_v 1) a_nil)) (b_v 1) (b_lst a_nil) (b_lst (a_cons (b_lc (own := [("row", 2)]) rfl sc_Bench_init.nd  (i_list (b_call c_bare_rows hr rfl (a_cons (b_v 1) a_nil))) (blkOk_by (own := [("row", 2)]) (N := n_Bench_init) (sc := defScope s_Bench_init) (by decide +kernel)) (fun _ _ _ _ _ => (t_n sc_Bench_init.nd rfl (by first | exact Or.inl rfl | exact Or.inr rfl))) (fun _ _ _ _ _ => l_nil) (fun _ _ _ _ _ => (b_bty c_tuple G.tuple rfl bt_tuple (a_cons (b_v 2) a_nil)))) a_nil)) rfl (Or.inl rfl)) d_Bench_init
theorem sc_Bench_put : FnScope n_Bench_put ["self", "comparer"] (defScope s_Bench_put) := ⟨rfl, rfl, rfl, by decide +kernel, rfl, by decide +kernel, by decide +kernel⟩
theorem ok_Bench_put {k : Nat} {fd : FuncData} (F : FunD K "put" "Bench.put" (defArgs s_Bench_put) (defBody s_Bench_put) (defScope s_Bench_put) [] [] (He.ma K (He.ga K "Bench") "put") fd) (M : Meth K (He.ga K "Bench") "put" (He.ma K (He.ga K "Bench") "put")) (G : Gs mg) (c_is_comparer : CalD P w K mg base k "is_comparer" sp_is_comparer) (c_put_through : CalD P w K mg base k "put_through" sp_put_through) (BN : BnC K mg) (g_MOST_COMPARERS : ∃ t, mg "MOST_COMPARERS" = some (.int 60 t)) : MethM P w K mg base (k + 1) "put" sp_Bench_put :=
  meth_mk F M (F.bindsN fun _ _ _ _ _ _ us hl => match us, hl with | [_, _], _ => rfl) sc_Bench_put (by decide) l_Bench_put (fun cdv A outer s H E hr => (s_seq (s_if (q_w (w_or (q_not (q_val (b_call c_is_comparer hr rfl (a_cons (b_v 1) (a_cons (b_lines BN (b_v 0)) a_nil))))) (w_or1 (q_cmp (o_eq hr.units) (b_blt c_len G.len rfl bt_len (a_cons (b_laid BN (b_v 0)) a_nil)) (b_gi g_MOST_COMPARERS rfl) (nomark _))))) (s_one s_never) s_nil) (s_seq (s_set (i := 2) (m_s (m_a (b_call c_put_through hr rfl (a_cons (b_ix (b_past BN (b_v 0)) (b_neg b_int)) (a_cons (b_v 1) a_nil))))) sc_Bench_put.nd rfl (by first | exact Or.inl rfl | exact Or.inr rfl)) (s_seq (s_set (i := 3) (m_s (m_a (b_cmp (o_ne hr.units) (b_lc (own := [("row", 4)]) rfl sc_Bench_put.nd  (i_list (b_ix (b_past BN (b_v 0)) (b_neg b_int))) (blkOk_by (own := [("row", 4)]) (N := n_Bench_put) (sc := defScope s_Bench_put) (by decide +kernel)) (fun _ _ _ _ _ => (t_n sc_Bench_put.nd rfl (by first | exact Or.inl rfl | exact Or.inr rfl))) (fun _ _ _ _ _ => (l_one (q_cmp o_gt (b_ix (b_v 4) (b_ix (b_v 1) b_int)) (b_ix (b_v 4) (b_ix (b_v 1) b_int)) (nomark _)))) (fun _ _ _ _ _ => (b_v 4))) (b_lst a_nil) (nomark _)))) sc_Bench_put.nd rfl (by first | exact Or.inl rfl | exact Or.inr rfl)) (s_seq (s_laidApp 0 BN (b_v 1)) (s_seq (s_pastApp 0 BN (b_v 2)) (s_one (s_ret (m_v 3))))))))) d_Bench_put
theorem okx_Bench_put {k : Nat} {fd : FuncData} (F : FunD K "put" "Bench.put" (defArgs s_Bench_put) (defBody s_Bench_put) (defScope s_Bench_put) [] [] (He.ma K (He.ga K "Bench") "put") fd) (M : Meth K (He.ga K "Bench") "put" (He.ma K (He.ga K "Bench") "put")) (G : Gs mg) (c_is_comparer : CalD P w K mg base k "is_comparer" sp_is_comparer) (hk : 2 ≤ k) (e_BadWeb : LowC P w K mg base "BadWeb") (BN : BnC K mg) (g_MOST_COMPARERS : ∃ t, mg "MOST_COMPARERS" = some (.int 60 t)) : MethX P w K mg base (k + 1) "put" spb_Bench_put :=
  methX_mk F M (F.bindsN fun _ _ _ _ _ _ us hl => match us, hl with | [_, _], _ => rfl) sc_Bench_put lb_Bench_put (fun cdv A outer s H E hr => (s_seq (s_if (q_w (w_or (q_not (q_val (b_call c_is_comparer hr rfl (a_cons (b_v 1) (a_cons (b_lines BN (b_v 0)) a_nil))))) (w_or1 (q_cmp (o_eq hr.units) (b_blt c_len G.len rfl bt_len (a_cons (b_laid BN (b_v 0)) a_nil)) (b_gi g_MOST_COMPARERS rfl) (nomark _))))) (s_one (s_raiseP rfl e_BadWeb hr hk rfl b_non)) s_nil) ss_never)) db_Bench_put
theorem sc_Bench_take_back : FnScope n_Bench_take_back ["self"] (defScope s_Bench_take_back) := ⟨rfl, rfl, rfl, by decide +kernel, rfl, by decide +kernel, by decide +kernel⟩
theorem ok_Bench_take_back {k : Nat} {fd : FuncData} (F : FunD K "take_back" "Bench.take_back" (defArgs s_Bench_take_back) (defBody s_Bench_take_back) (defScope s_Bench_take_back) [] [] (He.ma K (He.ga K "Bench") "take_back") fd) (M : Meth K (He.ga K "Bench") "take_back" (He.ma K (He.ga K "Bench") "take_back")) (G : Gs mg) (BN : BnC K mg) : MethM P w K mg base (k + 1) "take_back" sp_Bench_take_back :=
  meth_mk F M (F.bindsN fun _ _ _ _ _ _ us hl => match us, hl with | [_], _ => rfl) sc_Bench_take_back (by decide) l_Bench_take_back (fun cdv A outer s H E hr => (s_seq (s_if (q_cmp (o_eq hr.units) (b_laid BN (b_v 0)) (b_lst a_nil) (nomark _)) (s_one s_never) s_nil) (s_seq (s_expr (m_pastPop 0 BN)) (s_one (s_ret (m_laidPop 0 BN)))))) d_Bench_take_back
theorem okx_Bench_take_back {k : Nat} {fd : FuncData} (F : FunD K "take_back" "Bench.take_back" (defArgs s_Bench_take_back) (defBody s_Bench_take_back) (defScope s_Bench_take_back) [] [] (He.ma K (He.ga K "Bench") "take_back") fd) (M : Meth K (He.ga K "Bench") "take_back" (He.ma K (He.ga K "Bench") "take_back")) (G : Gs mg) (e_NothingPut : ErrC K mg "NothingPut") (BN : BnC K mg) : MethX P w K mg base (k + 1) "take_back" spb_Bench_take_back :=
  methX_mk F M (F.bindsN fun _ _ _ _ _ _ us hl => match us, hl with | [_], _ => rfl) sc_Bench_take_back lb_Bench_take_back (fun cdv A outer s H E hr => (s_seq (s_if (q_cmp (o_eq hr.units) (b_laid BN (b_v 0)) (b_lst a_nil) (nomark _)) (s_one (s_raise rfl e_NothingPut rfl)) s_nil) ss_never)) db_Bench_take_back
theorem sc_Bench_comparers : FnScope n_Bench_comparers ["self"] (defScope s_Bench_comparers) := ⟨rfl, rfl, rfl, by decide +kernel, rfl, by decide +kernel, by decide +kernel⟩
theorem ok_Bench_comparers {k : Nat} {fd : FuncData} (F : FunD K "comparers" "Bench.comparers" (defArgs s_Bench_comparers) (defBody s_Bench_comparers) (defScope s_Bench_comparers) [] [] (He.ma K (He.ga K "Bench") "comparers") fd) (M : Meth K (He.ga K "Bench") "comparers" (He.ma K (He.ga K "Bench") "comparers")) (G : Gs mg) (BN : BnC K mg) : MethD P w K mg base (k + 1) "comparers" sp_Bench_comparers :=
  methD_mk F M (F.bindsN fun _ _ _ _ _ _ us hl => match us, hl with | [_], _ => rfl) sc_Bench_comparers l_Bench_comparers (fun cdv A outer s H E hr => (s_one (s_ret (m_n (b_bty c_list G.list rfl bt_list (a_cons (b_laid BN (b_v 0)) a_nil)))))) d_Bench_comparers
theorem sc_Bench_many : FnScope n_Bench_many ["self"] (defScope s_Bench_many) := ⟨rfl, rfl, rfl, by decide +kernel, rfl, by decide +kernel, by decide +kernel⟩
theorem ok_Bench_many {k : Nat} {fd : FuncData} (F : FunD K "many" "Bench.many" (defArgs s_Bench_many) (defBody s_Bench_many) (defScope s_Bench_many) [] [] (He.ma K (He.ga K "Bench") "many") fd) (M : Meth K (He.ga K "Bench") "many" (He.ma K (He.ga K "Bench") "many")) (G : Gs mg) (BN : BnC K mg) : MethD P w K mg base (k + 1) "many" sp_Bench_many :=
  methD_mk F M (F.bindsN fun _ _ _ _ _ _ us hl => match us, hl with | [_], _ => rfl) sc_Bench_many l_Bench_many (fun cdv A outer s H E hr => (s_one (s_ret (m_n (b_blt c_len G.len rfl bt_len (a_cons (b_ix (b_past BN (b_v 0)) (b_neg b_int)) a_nil)))))) d_Bench_many
theorem sc_Bench_wild : FnScope n_Bench_wild ["self"] (defScope s_Bench_wild) := ⟨rfl, rfl, rfl, by decide +kernel, rfl, by decide +kernel, by decide +kernel⟩
theorem ok_Bench_wild {k : Nat} {fd : FuncData} (F : FunD K "wild" "Bench.wild" (defArgs s_Bench_wild) (defBody s_Bench_wild) (defScope s_Bench_wild) [] [] (He.ma K (He.ga K "Bench") "wild") fd) (M : Meth K (He.ga K "Bench") "wild" (He.ma K (He.ga K "Bench") "wild")) (G : Gs mg) (c_is_rising : CalD P w K mg base k "is_rising" sp_is_rising) (BN : BnC K mg) : MethD P w K mg base (k + 1) "wild" sp_Bench_wild :=
  methD_mk F M (F.bindsN fun _ _ _ _ _ _ us hl => match us, hl with | [_], _ => rfl) sc_Bench_wild l_Bench_wild (fun cdv A outer s H E hr => (s_seq (s_for PassesOwn.never rfl (i_list (b_blt c_sortTs G.sorted rfl bt_sorted (a_cons (b_ix (b_past BN (b_v 0)) (b_neg b_int)) a_nil))) (t_n sc_Bench_wild.nd rfl (by first | exact Or.inl rfl | exact Or.inr rfl)) (s_one (s_if (q_not (q_val (b_call c_is_rising hr rfl (a_cons (b_v 1) a_nil)))) (s_one (s_ret (m_n (b_bty c_list G.list rfl bt_list (a_cons (b_v 1) a_nil))))) s_nil))) (s_one (s_ret (m_n b_non))))) d_Bench_wild
theorem sc__law_draw : FnScope n__law_draw ["_law_cell", "_law_k", "_law_j"] (defScope s__law_draw) := ⟨rfl, rfl, rfl, by decide +kernel, rfl, by decide +kernel, by decide +kernel⟩
theorem ok__law_draw {k : Nat} {f : Addr} {fd : FuncData} (F : FunP K "_law_draw" s__law_draw f fd) (hm : mg "_law_draw" = some (.ref f)) (G : Gs mg) : CalD P w K mg base (k + 1) "_law_draw" sp__law_draw :=
  cal_mk F hm (F.bindsN fun _ _ _ _ _ _ us hl => match us, hl with | [_, _, _], _ => rfl) sc__law_draw l__law_draw (fun cdv A outer s H E hr => (s_seq (s_set (i := 3) (m_s (m_n (b_op o_add (b_op o_mul (b_op o_mul (b_op o_add (b_v 1) b_int) (b_op o_add (b_v 1) b_int)) b_int) (b_op o_mul (b_op o_mul (b_op o_add (b_v 2) b_int) (b_op o_add (b_v 2) b_int)) b_int)))) sc__law_draw.nd rfl (by first | exact Or.inl rfl | exact Or.inr rfl)) (s_one (s_ret (m_n (b_op o_div (b_op o_mod (b_op o_mul (b_op o_mod (b_op o_add (b_op o_mul (b_op o_mod (b_v 0) b_int) b_int) (b_v 3)) b_int) b_int) b_int) b_int)))))) d__law_draw
theorem sc__law_gone : FnScope n__law_gone ["_law_comparers", "_law_row"] (defScope s__law_gone) := ⟨rfl, rfl, rfl, by decide +kernel, rfl, by decide +kernel, by decide +kernel⟩
theorem ok__law_gone {k : Nat} {f : Addr} {fd : FuncData} (F : FunP K "_law_gone" s__law_gone f fd) (hm : mg "_law_gone" = some (.ref f)) (G : Gs mg) : CalD P w K mg base (k + 1) "_law_gone" sp__law_gone :=
  cal_mk F hm (F.bindsN fun _ _ _ _ _ _ us hl => match us, hl with | [_, _], _ => rfl) sc__law_gone l__law_gone (fun cdv A outer s H E hr => (s_seq (s_set (i := 2) (m_n (b_bty c_list G.list rfl bt_list (a_cons (b_v 1) a_nil))) sc__law_gone.nd rfl (by first | exact Or.inl rfl | exact Or.inr rfl)) (s_seq (s_for PassesOwn.never rfl (i_list (b_v 0)) (t_t (js := [3, 4]) rfl (pgs_cons (pg_name (i := 3) sc__law_gone.nd rfl (by first | exact Or.inl rfl | exact Or.inr rfl)) (pgs_cons (pg_name (i := 4) sc__law_gone.nd rfl (by first | exact Or.inl rfl | exact Or.inr rfl)) pgs_nil))) (s_one (s_asgG (m_a (b_tup (a_cons (b_blt (c_min2 rfl) G.min rfl bt_min (a_cons (b_ix (b_v 2) (b_v 3)) (a_cons (b_ix (b_v 2) (b_v 4)) a_nil))) (a_cons (b_blt (c_max2 rfl) G.max rfl bt_max (a_cons (b_ix (b_v 2) (b_v 3)) (a_cons (b_ix (b_v 2) (b_v 4)) a_nil))) a_nil)))) (g_t2 rfl (g_x 2 (m_n (b_v 3))) (g_x 2 (m_n (b_v 4))))))) (s_one (s_ret (m_v 2)))))) d__law_gone
theorem sc__law_bare : FnScope n__law_bare ["_law_lines"] (defScope s__law_bare) := ⟨rfl, rfl, rfl, by decide +kernel, rfl, by decide +kernel, by decide +kernel⟩
theorem ok__law_bare {k : Nat} {f : Addr} {fd : FuncData} (F : FunP K "_law_bare" s__law_bare f fd) (hm : mg "_law_bare" = some (.ref f)) (G : Gs mg) : CalD P w K mg base (k + 1) "_law_bare" sp__law_bare :=
  cal_mk F hm (F.bindsN fun _ _ _ _ _ _ us hl => match us, hl with | [_], _ => rfl) sc__law_bare l__law_bare (fun cdv A outer s H E hr => (s_one (s_ret (m_n (b_lc (own := [("_law_n", 1)]) rfl sc__law_bare.nd  (i_rng1 G.range rfl (a_cons (b_op o_shl b_int (b_v 0)) a_nil)) (blkOk_by (own := [("_law_n", 1)]) (N := n__law_bare) (sc := defScope s__law_bare) (by decide +kernel)) (fun _ _ _ _ _ => (t_n sc__law_bare.nd rfl (by first | exact Or.inl rfl | exact Or.inr rfl))) (fun _ _ _ _ _ => l_nil) (fun _ _ _ _ _ => (b_lc (own := [("_law_k", 2)]) rfl sc__law_bare.nd  (i_rng1 G.range rfl (a_cons (b_v 0) a_nil)) (blkOk_by (own := [("_law_k", 2)]) (by kernel_rfl)) (fun _ _ _ _ _ => (t_n sc__law_bare.nd rfl (by first | exact Or.inl rfl | exact Or.inr rfl))) (fun _ _ _ _ _ => l_nil) (fun _ _ _ _ _ => (b_op o_andI (b_op o_shr (b_v 1) (b_v 2)) b_int))))))))) d__law_bare
theorem sc__law_is_bare : FnScope n__law_is_bare ["_law_row", "_law_lines"] (defScope s__law_is_bare) := ⟨rfl, rfl, rfl, by decide +kernel, rfl, by decide +kernel, by decide +kernel⟩
theorem ok__law_is_bare {k : Nat} {f : Addr} {fd : FuncData} (F : FunP K "_law_is_bare" s__law_is_bare f fd) (hm : mg "_law_is_bare" = some (.ref f)) (G : Gs mg) : CalD P w K mg base (k + 1) "_law_is_bare" sp__law_is_bare :=
  cal_mk F hm (F.bindsN fun _ _ _ _ _ _ us hl => match us, hl with | [_, _], _ => rfl) sc__law_is_bare l__law_is_bare (fun cdv A outer s H E hr => (s_seq (s_if (q_w (w_or (q_not (q_val (b_isi (x := "list") G.isinstance rfl (pe_bltn rfl G.list bt_list rfl) (by decide) (b_v 0)))) (w_or1 (q_cmp (o_ne hr.units) (b_blt c_len G.len rfl bt_len (a_cons (b_v 0) a_nil)) (b_v 1) (nomark _))))) (s_one (s_ret (m_n b_bl))) s_nil) (s_seq (s_setLcS (i := 2) (own := [("_law_bit", 3)]) false rfl sc__law_is_bare.nd rfl rfl (sw_true rfl rfl rfl (by decide +kernel)) (i_list (b_v 0)) (blkOk_by (own := [("_law_bit", 3)]) (N := n__law_is_bare) (sc := defScope s__law_is_bare) (by decide +kernel)) (fun _ _ _ _ _ => (t_n sc__law_is_bare.nd rfl (by first | exact Or.inl rfl | exact Or.inr rfl))) (fun _ _ _ _ _ => (l_one (q_w (w_or (q_val (b_isi (x := "bool") G.isinstance rfl (pe_bltn rfl G.bool bt_bool rfl) (by decide) (b_v 3))) (w_or1 (q_not (q_val (b_isi (x := "int") G.isinstance rfl (pe_bltn rfl G.int bt_int rfl) (by decide) (b_v 3))))))))) (fun _ _ _ _ _ => (b_v 3))) (s_one (s_ret (m_n (b_and (b_cmp (o_eq hr.units) (b_v 2) (b_lst a_nil) (nomark _)) (b_one (b_cmp (o_eq hr.units) (b_lc (own := [("_law_bit", 3)]) rfl sc__law_is_bare.nd  (i_list (b_v 0)) (blkOk_by (own := [("_law_bit", 3)]) (N := n__law_is_bare) (sc := defScope s__law_is_bare) (by decide +kernel)) (fun _ _ _ _ _ => (t_n sc__law_is_bare.nd rfl (by first | exact Or.inl rfl | exact Or.inr rfl))) (fun _ _ _ _ _ => (l_one (q_cmp o_nin (b_v 3) (b_tup (a_cons b_int (a_cons b_int a_nil))) rfl))) (fun _ _ _ _ _ => (b_v 3))) (b_lst a_nil) (nomark _)))))))))) d__law_is_bare
theorem sc__law_is_web : FnScope n__law_is_web ["_law_found", "_law_due"] (defScope s__law_is_web) := ⟨rfl, rfl, rfl, by decide +kernel, rfl, by decide +kernel, by decide +kernel⟩
theorem ok__law_is_web {k : Nat} {f : Addr} {fd : FuncData} (F : FunP K "_law_is_web" s__law_is_web f fd) (hm : mg "_law_is_web" = some (.ref f)) (G : Gs mg) : CalD P w K mg base (k + 1) "_law_is_web" sp__law_is_web :=
  cal_mk F hm (F.bindsN fun _ _ _ _ _ _ us hl => match us, hl with | [_, _], _ => rfl) sc__law_is_web l__law_is_web (fun cdv A outer s H E hr => (s_seq (s_if (q_w (w_or (q_not (q_val (b_isi (x := "list") G.isinstance rfl (pe_bltn rfl G.list bt_list rfl) (by decide) (b_v 0)))) (w_or1 (q_cmp (o_ne hr.units) (b_v 0) (b_v 1) (nomark _))))) (s_one (s_ret (m_n b_bl))) s_nil) (s_seq (s_for PassesOwn.never rfl (i_list (b_v 0)) (t_n sc__law_is_web.nd rfl (by first | exact Or.inl rfl | exact Or.inr rfl)) (s_one (s_if (q_w (w_or (q_not (q_val (b_isi (x := "tuple") G.isinstance rfl (pe_bltn rfl G.tuple bt_tuple rfl) (by decide) (b_v 2)))) (w_or1 (q_cmp (o_ne hr.units) (b_lc (own := [("_law_line", 3)]) rfl sc__law_is_web.nd  (i_tup (b_v 2)) (blkOk_by (own := [("_law_line", 3)]) (N := n__law_is_web) (sc := defScope s__law_is_web) (by decide +kernel)) (fun _ _ _ _ _ => (t_n sc__law_is_web.nd rfl (by first | exact Or.inl rfl | exact Or.inr rfl))) (fun _ _ _ _ _ => (l_one (q_val (b_isi (x := "bool") G.isinstance rfl (pe_bltn rfl G.bool bt_bool rfl) (by decide) (b_v 3))))) (fun _ _ _ _ _ => (b_v 3))) (b_lst a_nil) (nomark _))))) (s_one (s_ret (m_n b_bl))) s_nil))) (s_one (s_ret (m_n b_bl)))))) d__law_is_web
theorem sc__law_word : FnScope n__law_word ["_law_e"] (defScope s__law_word) := ⟨rfl, rfl, rfl, by decide +kernel, rfl, by decide +kernel, by decide +kernel⟩
theorem ok__law_word {k : Nat} {f : Addr} {fd : FuncData} (F : FunP K "_law_word" s__law_word f fd) (hm : mg "_law_word" = some (.ref f)) (G : Gs mg) (T_BadRow : IsC K mg "BadRow" [("BadLines", false), ("BadWeb", false), ("BadRow", true), ("BadPlace", false), ("BadOrder", false), ("BadText", false), ("NothingPut", false)]) (T_BadWeb : IsC K mg "BadWeb" [("BadLines", false), ("BadWeb", true), ("BadRow", false), ("BadPlace", false), ("BadOrder", false), ("BadText", false), ("NothingPut", false)]) (T_BadLines : IsC K mg "BadLines" [("BadLines", true), ("BadWeb", false), ("BadRow", false), ("BadPlace", false), ("BadOrder", false), ("BadText", false), ("NothingPut", false)]) (T_BadOrder : IsC K mg "BadOrder" [("BadLines", false), ("BadWeb", false), ("BadRow", false), ("BadPlace", false), ("BadOrder", true), ("BadText", false), ("NothingPut", false)]) (T_BadPlace : IsC K mg "BadPlace" [("BadLines", false), ("BadWeb", false), ("BadRow", false), ("BadPlace", true), ("BadOrder", false), ("BadText", false), ("NothingPut", false)]) (T_NothingPut : IsC K mg "NothingPut" [("BadLines", false), ("BadWeb", false), ("BadRow", false), ("BadPlace", false), ("BadOrder", false), ("BadText", false), ("NothingPut", true)]) (T_BadText : IsC K mg "BadText" [("BadLines", false), ("BadWeb", false), ("BadRow", false), ("BadPlace", false), ("BadOrder", false), ("BadText", true), ("NothingPut", false)]) (T_ValueError : IsC K mg "ValueError" [("BadLines", true), ("BadWeb", true), ("BadRow", true), ("BadPlace", true), ("BadOrder", true), ("BadText", true), ("NothingPut", true)]) : CalD P w K mg base (k + 1) "_law_word" sp__law_word :=
  cal_mk F hm (F.bindsN fun _ _ _ _ _ _ us hl => match us, hl with | [_], _ => rfl) sc__law_word l__law_word (fun cdv A outer s H E hr => (s_seq (s_set (i := 1) (m_s (m_n (b_lst (a_cons (b_tup (a_cons b_str (a_cons (b_isX T_BadLines G.isinstance rfl rfl (b_v 0)) a_nil))) (a_cons (b_tup (a_cons b_str (a_cons (b_isX T_BadWeb G.isinstance rfl rfl (b_v 0)) a_nil))) (a_cons (b_tup (a_cons b_str (a_cons (b_isX T_BadRow G.isinstance rfl rfl (b_v 0)) a_nil))) a_nil)))))) sc__law_word.nd rfl (by first | exact Or.inl rfl | exact Or.inr rfl)) (s_seq (s_set (i := 1) (m_s (m_n (b_op o_add (b_v 1) (b_lst (a_cons (b_tup (a_cons b_str (a_cons (b_isX T_BadPlace G.isinstance rfl rfl (b_v 0)) a_nil))) (a_cons (b_tup (a_cons b_str (a_cons (b_isX T_BadOrder G.isinstance rfl rfl (b_v 0)) a_nil))) a_nil)))))) sc__law_word.nd rfl (by first | exact Or.inl rfl | exact Or.inr rfl)) (s_seq (s_set (i := 1) (m_s (m_n (b_op o_add (b_v 1) (b_lst (a_cons (b_tup (a_cons b_str (a_cons (b_isX T_BadText G.isinstance rfl rfl (b_v 0)) a_nil))) (a_cons (b_tup (a_cons b_str (a_cons (b_isX T_NothingPut G.isinstance rfl rfl (b_v 0)) a_nil))) a_nil)))))) sc__law_word.nd rfl (by first | exact Or.inl rfl | exact Or.inr rfl)) (s_seq (s_setLcS (i := 2) (own := [("_law_word_here", 3), ("_law_good", 4)]) false rfl sc__law_word.nd rfl rfl (sw_true rfl rfl rfl (by decide +kernel)) (i_list (b_v 1)) (blkOk_by (own := [("_law_word_here", 3), ("_law_good", 4)]) (N := n__law_word) (sc := defScope s__law_word) (by decide +kernel)) (fun _ _ _ _ _ => (t_t (js := [3, 4]) rfl (pgs_cons (pg_name (i := 3) sc__law_word.nd rfl (by first | exact Or.inl rfl | exact Or.inr rfl)) (pgs_cons (pg_name (i := 4) sc__law_word.nd rfl (by first | exact Or.inl rfl | exact Or.inr rfl)) pgs_nil)))) (fun _ _ _ _ _ => (l_one (q_val (b_v 4)))) (fun _ _ _ _ _ => (b_v 3))) (s_seq (s_if (q_cmp o_is (b_v 0) b_non (nomark _)) (s_one (s_ret (m_n b_str))) s_nil) (s_one (s_ret (m_n (b_if (q_w (w_and (q_cmp (o_eq hr.units) (b_blt c_len G.len rfl bt_len (a_cons (b_v 2) a_nil)) b_int (nomark _)) (w_and1 (q_val (b_isX T_ValueError G.isinstance rfl rfl (b_v 0)))))) (b_ix (b_v 2) b_int) b_str)))))))))) d__law_word
theorem sc__law_tried : FnScope n__law_tried ["_law_bench", "_law_thing"] (defScope s__law_tried) := ⟨rfl, rfl, rfl, by decide +kernel, rfl, by decide +kernel, by decide +kernel⟩
theorem ok__law_tried {k : Nat} {f : Addr} {fd : FuncData} (F : FunP K "_law_tried" s__law_tried f fd) (hm : mg "_law_tried" = some (.ref f)) (G : Gs mg) (hG_WebError : HndG K mg "WebError" [("BadLines", true), ("BadWeb", true), ("BadRow", true), ("BadPlace", true), ("BadOrder", true), ("BadText", true), ("NothingPut", true)]) (BN : BnC K mg) (mx_take_back : MethX P w K mg base k "take_back" spb_Bench_take_back) (mx_put : MethX P w K mg base k "put" spb_Bench_put) : CalD P w K mg base (k + 1) "_law_tried" sp__law_tried :=
  cal_mk F hm (F.bindsN fun _ _ _ _ _ _ us hl => match us, hl with | [_, _], _ => rfl) sc__law_tried l__law_tried (fun cdv A outer s H E hr => (s_seq (s_set (i := 2) (m_s (m_n b_non)) sc__law_tried.nd rfl (by first | exact Or.inl rfl | exact Or.inr rfl)) (s_seq (s_tryAs (i := 3) rfl rfl rfl sc__law_tried.nd rfl rfl hG_WebError rfl (fun pn xe hp => (s_one (s_if (q_cmp o_is (b_v 1) b_non (nomark _)) (s_one (s_methX0 BN mx_take_back hr (b_v 0))) (s_one (s_methX BN mx_put hr (b_v 0) (a_cons (b_v 1) a_nil)))))) (fun _ _ => (s_one (s_set (i := 2) (m_s (m_n (b_v 3))) sc__law_tried.nd rfl (by first | exact Or.inl rfl | exact Or.inr rfl))))) (s_one (s_ret (m_v 2)))))) d__law_tried
theorem sc__law_ends : FnScope n__law_ends ["_law_lines", "_law_comparers"] (defScope s__law_ends) := ⟨rfl, rfl, rfl, by decide +kernel, rfl, by decide +kernel, by decide +kernel⟩
theorem ok__law_ends {k : Nat} {f : Addr} {fd : FuncData} (F : FunP K "_law_ends" s__law_ends f fd) (hm : mg "_law_ends" = some (.ref f)) (G : Gs mg) (c__law_bare : CalD P w K mg base k "_law_bare" sp__law_bare) (c__law_gone : CalD P w K mg base k "_law_gone" sp__law_gone) : CalD P w K mg base (k + 1) "_law_ends" sp__law_ends :=
  cal_mk F hm (F.bindsN fun _ _ _ _ _ _ us hl => match us, hl with | [_, _], _ => rfl) sc__law_ends l__law_ends (fun cdv A outer s H E hr => (s_seq (s_set (i := 2) (m_n b_dnew) sc__law_ends.nd rfl (by first | exact Or.inl rfl | exact Or.inr rfl)) (s_seq (s_for PassesOwn.never rfl (i_list (b_call c__law_bare hr rfl (a_cons (b_v 0) a_nil))) (t_n sc__law_ends.nd rfl (by first | exact Or.inl rfl | exact Or.inr rfl)) (s_one (s_dputT 2 hr.un1 G.tuple rfl (b_call c__law_gone hr rfl (a_cons (b_v 1) (a_cons (b_v 3) a_nil)))))) (s_one (s_ret (m_v 2)))))) d__law_ends
theorem sc__law_asked : FnScope n__law_asked ["_law_bench", "_law_model", "_law_n", "_law_held"] (defScope s__law_asked) := ⟨rfl, rfl, rfl, by decide +kernel, rfl, by decide +kernel, by decide +kernel⟩
theorem ok__law_asked {k : Nat} {f : Addr} {fd : FuncData} (F : FunP K "_law_asked" s__law_asked f fd) (hm : mg "_law_asked" = some (.ref f)) (G : Gs mg) (c__law_ends : CalD P w K mg base k "_law_ends" sp__law_ends) (c__law_is_web : CalD P w K mg base k "_law_is_web" sp__law_is_web) (BN : BnC K mg) (m_comparers : MethD P w K mg base k "comparers" sp_Bench_comparers) (m_many : MethD P w K mg base k "many" sp_Bench_many) (m_wild : MethD P w K mg base k "wild" sp_Bench_wild) : CalP P w K mg base (k + 1) "_law_asked" spp__law_asked :=
  cal_mkP F hm (F.bindsN fun _ _ _ _ _ _ us hl => match us, hl with | [_, _, _, _], _ => rfl) sc__law_asked lp__law_asked rp__law_asked (fun cdv A outer s H E hr => (s_seq (s_set (i := 4) (m_f (m_a (b_call c__law_ends hr rfl (a_cons (b_mlines hr.un1 (b_v 1)) (a_cons (b_mweb hr.un1 (b_v 1)) a_nil))))) sc__law_asked.nd rfl (by first | exact Or.inl rfl | exact Or.inr rfl)) (s_seq (s_for PassesOwn.never rfl (i_rng1 G.range rfl (a_cons b_int a_nil)) (t_n sc__law_asked.nd rfl (by first | exact Or.inl rfl | exact Or.inr rfl)) (s_seq (s_set (i := 6) (m_s (m_n (b_op o_mod (b_op o_add (b_v 2) (b_op o_mul (b_v 5) (b_ix (b_lst (a_cons b_int (a_cons b_int a_nil))) (b_op o_mod (b_op o_div (b_v 2) b_int) b_int)))) b_int))) sc__law_asked.nd rfl (by first | exact Or.inl rfl | exact Or.inr rfl)) (s_cut (s_if (q_cmp (o_eq hr.units) (b_v 6) b_int (nomark _)) (s_seq (s_set (i := 7) (m_a (b_meth0 BN m_comparers hr (b_v 0))) sc__law_asked.nd rfl (by first | exact Or.inl rfl | exact Or.inr rfl)) (s_seq (s_if (q_not (q_val (b_call c__law_is_web hr rfl (a_cons (b_v 7) (a_cons (b_mweb hr.un1 (b_v 1)) a_nil))))) (s_one (s_ret (m_n b_bl))) s_nil) (s_seq (s_app 7 (m_n (b_tup (a_cons b_int (a_cons b_int a_nil))))) (s_one (s_olApp 3 (m_t2 (m_v 7) (m_a (b_op o_add (b_mweb hr.un1 (b_v 1)) (b_lst (a_cons (b_tup (a_cons b_int (a_cons b_int a_nil))) a_nil)))))))))) s_nil) (s_cut (s_if (q_cmp (o_eq hr.units) (b_v 6) b_int (nomark _)) (s_seq (s_set (i := 8) (m_s (m_a (b_meth0 BN m_many hr (b_v 0)))) sc__law_asked.nd rfl (by first | exact Or.inl rfl | exact Or.inr rfl)) (s_one (s_if (q_w (w_or (q_val (b_isi (x := "bool") G.isinstance rfl (pe_bltn rfl G.bool bt_bool rfl) (by decide) (b_v 8))) (w_or (q_not (q_val (b_isi (x := "int") G.isinstance rfl (pe_bltn rfl G.int bt_int rfl) (by decide) (b_v 8)))) (w_or1 (q_cmp (o_ne hr.units) (b_v 8) (b_blt c_lenF G.len rfl bt_len (a_cons (b_v 4) a_nil)) (nomark _)))))) (s_one (s_ret (m_n b_bl))) s_nil))) s_nil) (s_one (s_if (q_cmp (o_eq hr.units) (b_v 6) b_int (nomark _)) (s_seq (s_set (i := 9) (m_a (b_meth0 BN m_wild hr (b_v 0))) sc__law_asked.nd rfl (by first | exact Or.inl rfl | exact Or.inr rfl)) (s_seq (s_setLcS (i := 10) (own := [("_law_one", 12)]) false rfl sc__law_asked.nd rfl rfl (sw_true rfl rfl rfl (by decide +kernel)) (i_dt (b_v 4)) (blkOk_by (own := [("_law_one", 12)]) (N := n__law_asked) (sc := defScope s__law_asked) (by decide +kernel)) (fun _ _ _ _ _ => (t_n sc__law_asked.nd rfl (by first | exact Or.inl rfl | exact Or.inr rfl))) (fun _ _ _ _ _ => (l_one (q_cmp (o_ne hr.units) (b_bty c_list G.list rfl bt_list (a_cons (b_v 12) a_nil)) (b_blt c_sortTu G.sorted rfl bt_sorted (a_cons (b_v 12) a_nil)) (nomark _)))) (fun _ _ _ _ _ => (b_v 12))) (s_seq (s_if (q_cmp (o_ne hr.units) (b_cmp o_is (b_v 9) b_non (nomark _)) (b_cmp (o_eq hr.units) (b_v 10) (b_lst a_nil) (nomark _)) (nomark _)) (s_one (s_ret (m_n b_bl))) s_nil) (s_seq (s_if (q_w (w_and (q_cmp o_isnot (b_v 9) b_non (nomark _)) (w_and1 (q_w (w_or (q_not (q_val (b_isi (x := "list") G.isinstance rfl (pe_bltn rfl G.list bt_list rfl) (by decide) (b_v 9)))) (w_or1 (q_cmp (o_ninD hr.un65) (b_bty c_tuple G.tuple rfl bt_tuple (a_cons (b_v 9) a_nil)) (b_v 10) rfl))))))) (s_one (s_ret (m_n b_bl))) s_nil) (s_one (s_if (q_cmp o_isnot (b_v 9) b_non (nomark _)) (s_seq (s_set (i := 11) (m_s (m_a (b_bty c_list G.list rfl bt_list (a_cons (b_v 9) a_nil)))) sc__law_asked.nd rfl (by first | exact Or.inl rfl | exact Or.inr rfl)) (s_seq (s_app 9 (m_n b_int)) (s_one (s_if (q_cmp (o_ne hr.units) (b_meth0 BN m_wild hr (b_v 0)) (b_v 11) (nomark _)) (s_one (s_ret (m_n b_bl))) s_nil)))) s_nil)))))) s_nil)))))) (s_one (s_ret (m_n b_bl)))))) dp__law_asked
theorem sc__law_deed : FnScope n__law_deed ["_law_bench", "_law_model", "_law_cell", "_law_k"] (defScope s__law_deed) := ⟨rfl, rfl, rfl, by decide +kernel, rfl, by decide +kernel, by decide +kernel⟩
theorem ok__law_deed {k : Nat} {f : Addr} {fd : FuncData} (F : FunP K "_law_deed" s__law_deed f fd) (hm : mg "_law_deed" = some (.ref f)) (G : Gs mg) (c__law_draw : CalD P w K mg base k "_law_draw" sp__law_draw) (c__law_word : CalD P w K mg base k "_law_word" sp__law_word) (c__law_tried : CalD P w K mg base k "_law_tried" sp__law_tried) (c__law_ends : CalD P w K mg base k "_law_ends" sp__law_ends) (BN : BnC K mg) (m_take_back : MethM P w K mg base k "take_back" sp_Bench_take_back) (m_put : MethM P w K mg base k "put" sp_Bench_put) : CalP P w K mg base (k + 1) "_law_deed" spp__law_deed :=
  cal_mkP F hm (F.bindsN fun _ _ _ _ _ _ us hl => match us, hl with | [_, _, _, _], _ => rfl) sc__law_deed lp__law_deed rp__law_deed (fun cdv A outer s H E hr => (s_seq (s_set (i := 4) (m_s (m_n (b_call c__law_draw hr rfl (a_cons (b_v 2) (a_cons (b_v 3) (a_cons b_int a_nil)))))) sc__law_deed.nd rfl (by first | exact Or.inl rfl | exact Or.inr rfl)) (s_seq (s_set (i := 5) (m_s (m_a (b_mlines hr.un1 (b_v 1)))) sc__law_deed.nd rfl (by first | exact Or.inl rfl | exact Or.inr rfl)) (s_seq (s_if (q_w (w_or (q_w (w_and (q_cmp (o_eq hr.units) (b_op o_mod (b_v 4) b_int) b_int (nomark _)) (w_and1 (q_cmp (o_ne hr.units) (b_mweb hr.un1 (b_v 1)) (b_lst a_nil) (nomark _))))) (w_or1 (q_cmp (o_eq hr.units) (b_blt c_len G.len rfl bt_len (a_cons (b_mweb hr.un1 (b_v 1)) a_nil)) b_int (nomark _))))) (s_one (s_ret (m_cmp (o_eq hr.units) (m_meth0 0 BN m_take_back hr) (m_mdPop 1 hr.un1) (nomark _)))) s_nil) (s_seq (s_if (q_cmp (o_eq hr.units) (b_v 5) b_int (nomark _)) (s_one (s_ret (m_a (b_cmp (o_eq hr.units) (b_call c__law_word hr rfl (a_cons (b_call c__law_tried hr rfl (a_cons (b_v 0) (a_cons (b_tup (a_cons b_int (a_cons b_int a_nil))) a_nil))) a_nil)) b_str (nomark _))))) s_nil) (s_seq (s_set (i := 6) (m_s (m_n (b_op o_mod (b_op o_div (b_v 4) b_int) (b_v 5)))) sc__law_deed.nd rfl (by first | exact Or.inl rfl | exact Or.inr rfl)) (s_seq (s_set (i := 7) (m_s (m_n (b_op o_mod (b_op o_add (b_op o_add (b_v 6) b_int) (b_op o_mod (b_op o_div (b_v 4) b_int) (b_op o_sub (b_v 5) b_int))) (b_v 5)))) sc__law_deed.nd rfl (by first | exact Or.inl rfl | exact Or.inr rfl)) (s_seq (s_set (i := 8) (m_s (m_n (b_if (q_cmp o_gt (b_op o_mod (b_op o_div (b_v 4) b_int) b_int) b_int (nomark _)) (b_tup (a_cons (b_blt (c_min2 rfl) G.min rfl bt_min (a_cons (b_v 6) (a_cons (b_v 7) a_nil))) (a_cons (b_blt (c_max2 rfl) G.max rfl bt_max (a_cons (b_v 6) (a_cons (b_v 7) a_nil))) a_nil))) (b_tup (a_cons (b_v 6) (a_cons (b_v 7) a_nil)))))) sc__law_deed.nd rfl (by first | exact Or.inl rfl | exact Or.inr rfl)) (s_seq (s_asg (m_s (m_n (b_v 8))) (t_t (js := [11, 12]) rfl (pgs_cons (pg_name (i := 11) sc__law_deed.nd rfl (by first | exact Or.inl rfl | exact Or.inr rfl)) (pgs_cons (pg_name (i := 12) sc__law_deed.nd rfl (by first | exact Or.inl rfl | exact Or.inr rfl)) pgs_nil)))) (s_seq (s_set (i := 9) (m_s (m_a (b_cmp (o_ne hr.units) (b_lc (own := [("_law_row", 13)]) rfl sc__law_deed.nd  (i_dt (b_call c__law_ends hr rfl (a_cons (b_v 5) (a_cons (b_mweb hr.un1 (b_v 1)) a_nil)))) (blkOk_by (own := [("_law_row", 13)]) (N := n__law_deed) (sc := defScope s__law_deed) (by decide +kernel)) (fun _ _ _ _ _ => (t_n sc__law_deed.nd rfl (by first | exact Or.inl rfl | exact Or.inr rfl))) (fun _ _ _ _ _ => (l_one (q_cmp o_gt (b_ix (b_v 13) (b_v 11)) (b_ix (b_v 13) (b_v 12)) (nomark _)))) (fun _ _ _ _ _ => (b_v 13))) (b_lst a_nil) (nomark _)))) sc__law_deed.nd rfl (by first | exact Or.inl rfl | exact Or.inr rfl)) (s_seq (s_mdApp 1 hr.un1 (b_v 8)) (s_seq (s_set (i := 10) (m_s (m_meth 0 BN m_put hr (a_cons (b_v 8) a_nil))) sc__law_deed.nd rfl (by first | exact Or.inl rfl | exact Or.inr rfl)) (s_one (s_ret (m_n (b_and (b_isi (x := "bool") G.isinstance rfl (pe_bltn rfl G.bool bt_bool rfl) (by decide) (b_v 10)) (b_one (b_cmp (o_eq hr.units) (b_v 10) (b_v 9) (nomark _))))))))))))))))))) dp__law_deed
theorem sc__law_refused : FnScope n__law_refused ["_law_bench", "_law_model", "_law_n"] (defScope s__law_refused) := ⟨rfl, rfl, rfl, by decide +kernel, rfl, by decide +kernel, by decide +kernel⟩
theorem ok__law_refused {k : Nat} {f : Addr} {fd : FuncData} (F : FunP K "_law_refused" s__law_refused f fd) (hm : mg "_law_refused" = some (.ref f)) (G : Gs mg) (c__law_tried : CalD P w K mg base k "_law_tried" sp__law_tried) (c__law_word : CalD P w K mg base k "_law_word" sp__law_word) (P_BadWeb : PlaceC K "BadWeb") : CalD P w K mg base (k + 1) "_law_refused" sp__law_refused :=
  cal_mk F hm (F.bindsN fun _ _ _ _ _ _ us hl => match us, hl with | [_, _, _], _ => rfl) sc__law_refused l__law_refused (fun cdv A outer s H E hr => (s_seq (s_set (i := 3) (m_s (m_n (b_ix (b_lst (a_cons (b_tup (a_cons b_int (a_cons b_int a_nil))) (a_cons (b_tup (a_cons b_int (a_cons (b_mlines hr.un1 (b_v 1)) a_nil))) (a_cons (b_lst (a_cons b_int (a_cons b_int a_nil))) (a_cons b_int (a_cons b_str (a_cons (b_tup (a_cons b_int a_nil)) (a_cons (b_tup (a_cons b_bl (a_cons b_int a_nil))) (a_cons (b_tup (a_cons (b_neg b_int) (a_cons b_int a_nil))) (a_cons (b_tup (a_cons b_int (a_cons b_int (a_cons b_int a_nil)))) (a_cons b_dnew a_nil))))))))))) (b_op o_mod (b_v 2) b_int)))) sc__law_refused.nd rfl (by first | exact Or.inl rfl | exact Or.inr rfl)) (s_seq (s_set (i := 4) (m_s (m_n (b_call c__law_tried hr rfl (a_cons (b_v 0) (a_cons (b_v 3) a_nil))))) sc__law_refused.nd rfl (by first | exact Or.inl rfl | exact Or.inr rfl)) (s_seq (s_if (q_w (w_or (q_cmp (o_ne hr.units) (b_call c__law_word hr rfl (a_cons (b_v 4) a_nil)) b_str (nomark _)) (w_or1 (q_cmp o_isnot (b_place P_BadWeb (b_v 4)) b_non (nomark _))))) (s_one (s_ret (m_n b_bl))) s_nil) (s_one (s_ret (m_n (b_or (b_cmp (o_ne hr.units) (b_mweb hr.un1 (b_v 1)) (b_lst a_nil) (nomark _)) (b_one (b_cmp (o_eq hr.units) (b_call c__law_word hr rfl (a_cons (b_call c__law_tried hr rfl (a_cons (b_v 0) (a_cons b_non a_nil))) a_nil)) b_str (nomark _))))))))))) d__law_refused
theorem sc__law_full : FnScope n__law_full ["_law_lines", "_law_n"] (defScope s__law_full) := ⟨rfl, rfl, rfl, by decide +kernel, rfl, by decide +kernel, by decide +kernel⟩
theorem ok__law_full {k : Nat} {f : Addr} {fd : FuncData} (F : FunP K "_law_full" s__law_full f fd) (hm : mg "_law_full" = some (.ref f)) (G : Gs mg) (c__law_tried : CalD P w K mg base k "_law_tried" sp__law_tried) (c__law_word : CalD P w K mg base k "_law_word" sp__law_word) (P_BadWeb : PlaceC K "BadWeb") (BN : BnC K mg) (m_put : MethM P w K mg base k "put" sp_Bench_put) (m_comparers : MethD P w K mg base k "comparers" sp_Bench_comparers) (m_take_back : MethM P w K mg base k "take_back" sp_Bench_take_back) {j : Nat} (hj : j + 1 ≤ k) (mk_Bench : MakeB P w K mg base j sp_Bench_init) : CalD P w K mg base (k + 1) "_law_full" sp__law_full :=
  cal_mk F hm (F.bindsN fun _ _ _ _ _ _ us hl => match us, hl with | [_, _], _ => rfl) sc__law_full l__law_full (fun cdv A outer s H E hr => (s_seq (s_set (i := 2) (m_n (b_makeL BN mk_Bench hj hr rfl (b_v 0))) sc__law_full.nd rfl (by first | exact Or.inl rfl | exact Or.inr rfl)) (s_seq (s_setLcS (i := 3) (own := [("_law_k", 7)]) false rfl sc__law_full.nd rfl rfl (sw_true rfl rfl rfl (by decide +kernel)) (i_rng1 G.range rfl (a_cons b_int a_nil)) (blkOk_by (own := [("_law_k", 7)]) (N := n__law_full) (sc := defScope s__law_full) (by decide +kernel)) (fun _ _ _ _ _ => (t_n sc__law_full.nd rfl (by first | exact Or.inl rfl | exact Or.inr rfl))) (fun _ _ _ _ _ => l_nil) (fun _ _ _ _ _ => (b_ix (b_lst (a_cons (b_tup (a_cons b_int (a_cons b_int a_nil))) (a_cons (b_tup (a_cons b_int (a_cons b_int a_nil))) (a_cons (b_tup (a_cons (b_op o_sub (b_v 0) b_int) (a_cons b_int a_nil))) a_nil)))) (b_op o_mod (b_op o_shr (b_v 1) (b_op o_mod (b_v 7) b_int)) b_int)))) (s_seq (s_for PassesOwn.never rfl (i_list (b_v 3)) (t_n sc__law_full.nd rfl (by first | exact Or.inl rfl | exact Or.inr rfl)) (s_one (s_expr (m_meth 2 BN m_put hr (a_cons (b_v 4) a_nil))))) (s_seq (s_for PassesOwn.never rfl (i_rng1 G.range rfl (a_cons b_int a_nil)) (t_n sc__law_full.nd rfl (by first | exact Or.inl rfl | exact Or.inr rfl)) (s_seq (s_set (i := 6) (m_s (m_a (b_call c__law_tried hr rfl (a_cons (b_v 2) (a_cons (b_tup (a_cons b_int (a_cons b_int a_nil))) a_nil))))) sc__law_full.nd rfl (by first | exact Or.inl rfl | exact Or.inr rfl)) (s_seq (s_if (q_w (w_or (q_cmp (o_ne hr.units) (b_call c__law_word hr rfl (a_cons (b_v 6) a_nil)) b_str (nomark _)) (w_or (q_cmp o_isnot (b_place P_BadWeb (b_v 6)) b_non (nomark _)) (w_or1 (q_cmp (o_ne hr.units) (b_meth0 BN m_comparers hr (b_v 2)) (b_v 3) (nomark _)))))) (s_one (s_ret (m_n b_bl))) s_nil) (s_one (s_ifT (mt_or (mt_cmp (o_ne hr.units) (m_meth0 2 BN m_take_back hr) (m_n (b_ix (b_v 3) (b_neg b_int))) (nomark _)) (mt_not (mt_val (m_isi G.isinstance rfl (pe_bltn rfl G.bool bt_bool rfl) (by decide) (m_meth 2 BN m_put hr (a_cons (b_ix (b_v 3) (b_neg b_int)) a_nil)))))) (s_one (s_ret (m_n b_bl))) s_nil))))) (s_share 2 (s_seq (s_ret (m_n (b_cmp (o_eq hr.units) (b_meth0 BN m_comparers hr (b_v 2)) (b_v 3) (nomark _)))) s_nil))))))) d__law_full
theorem sc_law : FnScope n_law ["_law_script"] (defScope s_law) := ⟨rfl, rfl, rfl, by decide +kernel, rfl, by decide +kernel, by decide +kernel⟩
theorem ok_law {k : Nat} {f : Addr} {fd : FuncData} (F : FunP K "law" s_law f fd) (G : Gs mg) (c__law_draw : CalD P w K mg base k "_law_draw" sp__law_draw) (c__law_full : CalD P w K mg base k "_law_full" sp__law_full) (c__law_refused : CalD P w K mg base k "_law_refused" sp__law_refused) (cp__law_deed : CalP P w K mg base k "_law_deed" spp__law_deed) (cp__law_asked : CalP P w K mg base k "_law_asked" spp__law_asked) (BN : BnC K mg) (m_comparers : MethD P w K mg base k "comparers" sp_Bench_comparers) {j : Nat} (hj : j + 1 ≤ k) (mk_Bench : MakeB P w K mg base j sp_Bench_init) : FnOk P w K mg base CX0 (k + 1) f fd ["_law_script"] (spOf K sp_law) :=
  fn_mk F sc_law l_law (fun cdv A outer s H E hr => (s_seq (s_set (i := 1) (m_s (m_n (b_call c__law_draw hr rfl (a_cons (b_blt (c_sum rfl) G.sum rfl bt_sum (a_cons (b_slice (b_v 0) bo_none (bo_some b_int)) a_nil)) (a_cons b_int (a_cons b_int a_nil)))))) sc_law.nd rfl (by first | exact Or.inl rfl | exact Or.inr rfl)) (s_seq (s_if (q_w (w_and (q_cmp (o_eq hr.units) (b_op o_mod (b_op o_div (b_v 1) b_int) b_int) b_int (nomark _)) (w_and1 (q_not (q_val (b_call c__law_full hr rfl (a_cons (b_op o_add b_int (b_op o_mod (b_v 1) b_int)) (a_cons (b_v 1) a_nil)))))))) (s_one (s_ret (m_n b_bl))) s_nil) (s_seq (s_set (i := 2) (m_n (b_lst (a_cons (b_md (b_op o_add b_int (b_op o_mod (b_v 1) b_int))) (a_cons (b_md (b_op o_add b_int (b_op o_mod (b_op o_div (b_v 1) b_int) b_int))) a_nil)))) sc_law.nd rfl (by first | exact Or.inl rfl | exact Or.inr rfl)) (s_ml 2 (s_seq (s_setLcR (i := 3) (own := [("_law_model", 9)]) false rfl sc_law.nd rfl rfl (sw_true rfl rfl rfl (by decide +kernel)) (i_list (b_v 2)) (blkOk_by (own := [("_law_model", 9)]) (N := n_law) (sc := defScope s_law) (by decide +kernel)) (fun _ _ _ _ _ => (t_n sc_law.nd rfl (by first | exact Or.inl rfl | exact Or.inr rfl))) (fun _ _ _ _ _ => l_nil) (fun _ _ _ _ _ => (b_makeL BN mk_Bench hj hr rfl (b_mlines hr.un1 (b_v 9))))) (s_seq (s_set (i := 4) (m_n (b_lst a_nil)) sc_law.nd rfl (by first | exact Or.inl rfl | exact Or.inr rfl)) (s_seq (s_for PassesOwn.never rfl (i_enum G.enumerate rfl (b_slice (b_v 0) bo_none (bo_some b_int))) (t_t (js := [5, 6]) rfl (pgs_cons (pg_name (i := 5) sc_law.nd rfl (by first | exact Or.inl rfl | exact Or.inr rfl)) (pgs_cons (pg_name (i := 6) sc_law.nd rfl (by first | exact Or.inl rfl | exact Or.inr rfl)) pgs_nil))) (s_seq (s_set (i := 7) (m_s (m_n (b_call c__law_draw hr rfl (a_cons (b_v 6) (a_cons (b_v 5) (a_cons b_int a_nil)))))) sc_law.nd rfl (by first | exact Or.inl rfl | exact Or.inr rfl)) (s_seq (s_set (i := 8) (m_s (m_n (b_bty c_int G.int rfl bt_int (a_cons (b_cmp (o_eq hr.units) (b_op o_mod (b_v 7) b_int) b_int (nomark _)) a_nil)))) sc_law.nd rfl (by first | exact Or.inl rfl | exact Or.inr rfl)) (s_seq (s_if (q_w (w_and (q_cmp (o_eq hr.units) (b_op o_mod (b_op o_div (b_v 7) b_int) b_int) b_int (nomark _)) (w_and1 (q_not (q_val (b_call c__law_refused hr rfl (a_cons (b_ix (b_v 3) (b_v 8)) (a_cons (b_ix (b_v 2) (b_v 8)) (a_cons (b_op o_div (b_v 7) b_int) a_nil))))))))) (s_one (s_ret (m_n b_bl))) s_nil) (s_seq (s_ifT (mt_not (mt_val (m_procD 3 2 cp__law_deed hr rfl (b_v 8) (b_v 8) (b_v 6) (b_v 5)))) (s_one (s_ret (m_n b_bl))) s_nil) (s_seq (s_ifT (mt_not (mt_val (m_procV 3 2 4 cp__law_asked hr rfl (b_v 8) (b_v 8) (b_op o_div (b_v 7) b_int)))) (s_one (s_ret (m_n b_bl))) s_nil) (s_one (s_if (q_cmp (o_ne hr.units) (b_meth0 BN m_comparers hr (b_ix (b_v 3) (b_op o_sub b_int (b_v 8)))) (b_mweb hr.un1 (b_ix (b_v 2) (b_op o_sub b_int (b_v 8)))) (nomark _)) (s_one (s_ret (m_n b_bl))) s_nil)))))))) (s_share 4 (s_seq (s_ret (m_n (b_cmp (o_eq hr.units) (b_lc (own := [("_law_pair", 10)]) rfl sc_law.nd  (i_list (b_v 4)) (blkOk_by (own := [("_law_pair", 10)]) (N := n_law) (sc := defScope s_law) (by decide +kernel)) (fun _ _ _ _ _ => (t_n sc_law.nd rfl (by first | exact Or.inl rfl | exact Or.inr rfl))) (fun _ _ _ _ _ => (l_one (q_cmp (o_ne hr.units) (b_ix (b_v 10) b_int) (b_ix (b_v 10) b_int) (nomark _)))) (fun _ _ _ _ _ => (b_v 10))) (b_lst a_nil) (nomark _)))) s_nil)))))))))) d_law
end
def s_BadWeb_init : Stmt := inClass (top 3) 0
def hd_BadWeb_init : He.DefD := ⟨("BadWeb", some "__init__"), "__init__", "BadWeb.__init__", defArgs s_BadWeb_init, defBody s_BadWeb_init, defScope s_BadWeb_init, [], []⟩
def hd_is_whole : He.DefD := ⟨("is_whole", none), "is_whole", "is_whole", defArgs s_is_whole, defBody s_is_whole, defScope s_is_whole, [], []⟩
def hd_is_among : He.DefD := ⟨("is_among", none), "is_among", "is_among", defArgs s_is_among, defBody s_is_among, defScope s_is_among, [], []⟩
def hd_is_comparer : He.DefD := ⟨("is_comparer", none), "is_comparer", "is_comparer", defArgs s_is_comparer, defBody s_is_comparer, defScope s_is_comparer, [], []⟩
def hd_need_lines : He.DefD := ⟨("need_lines", none), "need_lines", "need_lines", defArgs s_need_lines, defBody s_need_lines, defScope s_need_lines, [], []⟩
def hd_passed : He.DefD := ⟨("passed", none), "passed", "passed", defArgs s_passed, defBody s_passed, defScope s_passed, [], []⟩
def hd_is_rising : He.DefD := ⟨("is_rising", none), "is_rising", "is_rising", defArgs s_is_rising, defBody s_is_rising, defScope s_is_rising, [], []⟩
def hd_bare_rows : He.DefD := ⟨("bare_rows", none), "bare_rows", "bare_rows", defArgs s_bare_rows, defBody s_bare_rows, defScope s_bare_rows, [], []⟩
def hd_put_through : He.DefD := ⟨("put_through", none), "put_through", "put_through", defArgs s_put_through, defBody s_put_through, defScope s_put_through, [], []⟩
def hd_Bench_init : He.DefD := ⟨("Bench", some "__init__"), "__init__", "Bench.__init__", defArgs s_Bench_init, defBody s_Bench_init, defScope s_Bench_init, [], []⟩
def hd_Bench_put : He.DefD := ⟨("Bench", some "put"), "put", "Bench.put", defArgs s_Bench_put, defBody s_Bench_put, defScope s_Bench_put, [], []⟩
def hd_Bench_take_back : He.DefD := ⟨("Bench", some "take_back"), "take_back", "Bench.take_back", defArgs s_Bench_take_back, defBody s_Bench_take_back, defScope s_Bench_take_back, [], []⟩
def hd_Bench_comparers : He.DefD := ⟨("Bench", some "comparers"), "comparers", "Bench.comparers", defArgs s_Bench_comparers, defBody s_Bench_comparers, defScope s_Bench_comparers, [], []⟩
def hd_Bench_many : He.DefD := ⟨("Bench", some "many"), "many", "Bench.many", defArgs s_Bench_many, defBody s_Bench_many, defScope s_Bench_many, [], []⟩
def hd_Bench_wild : He.DefD := ⟨("Bench", some "wild"), "wild", "Bench.wild", defArgs s_Bench_wild, defBody s_Bench_wild, defScope s_Bench_wild, [], []⟩
def hd__law_draw : He.DefD := ⟨("_law_draw", none), "_law_draw", "_law_draw", defArgs s__law_draw, defBody s__law_draw, defScope s__law_draw, [], []⟩
def hd__law_gone : He.DefD := ⟨("_law_gone", none), "_law_gone", "_law_gone", defArgs s__law_gone, defBody s__law_gone, defScope s__law_gone, [], []⟩
def hd__law_bare : He.DefD := ⟨("_law_bare", none), "_law_bare", "_law_bare", defArgs s__law_bare, defBody s__law_bare, defScope s__law_bare, [], []⟩
def hd__law_is_bare : He.DefD := ⟨("_law_is_bare", none), "_law_is_bare", "_law_is_bare", defArgs s__law_is_bare, defBody s__law_is_bare, defScope s__law_is_bare, [], []⟩
def hd__law_is_web : He.DefD := ⟨("_law_is_web", none), "_law_is_web", "_law_is_web", defArgs s__law_is_web, defBody s__law_is_web, defScope s__law_is_web, [], []⟩
def hd__law_word : He.DefD := ⟨("_law_word", none), "_law_word", "_law_word", defArgs s__law_word, defBody s__law_word, defScope s__law_word, [], []⟩
def hd__law_tried : He.DefD := ⟨("_law_tried", none), "_law_tried", "_law_tried", defArgs s__law_tried, defBody s__law_tried, defScope s__law_tried, [], []⟩
def hd__law_ends : He.DefD := ⟨("_law_ends", none), "_law_ends", "_law_ends", defArgs s__law_ends, defBody s__law_ends, defScope s__law_ends, [], []⟩
def hd__law_asked : He.DefD := ⟨("_law_asked", none), "_law_asked", "_law_asked", defArgs s__law_asked, defBody s__law_asked, defScope s__law_asked, [], []⟩
def hd__law_deed : He.DefD := ⟨("_law_deed", none), "_law_deed", "_law_deed", defArgs s__law_deed, defBody s__law_deed, defScope s__law_deed, [], []⟩
def hd__law_refused : He.DefD := ⟨("_law_refused", none), "_law_refused", "_law_refused", defArgs s__law_refused, defBody s__law_refused, defScope s__law_refused, [], []⟩
def hd__law_full : He.DefD := ⟨("_law_full", none), "_law_full", "_law_full", defArgs s__law_full, defBody s__law_full, defScope s__law_full, [], []⟩
def hd_law : He.DefD := ⟨("law", none), "law", "law", defArgs s_law, defBody s_law, defScope s_law, [], []⟩
def fn : List He.DefD := [hd_is_whole, hd_is_among, hd_is_comparer, hd_need_lines, hd_passed, hd_is_rising, hd_bare_rows, hd_put_through, hd_Bench_init, hd_Bench_put, hd_Bench_take_back, hd_Bench_comparers, hd_Bench_many, hd_Bench_wild, hd__law_draw, hd__law_gone, hd__law_bare, hd__law_is_bare, hd__law_is_web, hd__law_word, hd__law_tried, hd__law_ends, hd__law_asked, hd__law_deed, hd__law_refused, hd__law_full, hd_law, hd_BadWeb_init]
def fa : List He.Fa := [.glo "is_whole", .glo "is_among", .glo "is_comparer", .glo "need_lines", .glo "passed", .glo "is_rising", .glo "bare_rows", .glo "put_through", .glo "_law_draw", .glo "_law_gone", .glo "_law_bare", .glo "_law_is_bare", .glo "_law_is_web", .glo "_law_word", .glo "_law_tried", .glo "_law_ends", .glo "_law_asked", .glo "_law_deed", .glo "_law_refused", .glo "_law_full", .glo "law", .free "len", .free "list", .free "range", .free "enumerate", .free "zip", .free "min", .free "max", .free "sum", .free "sorted", .free "all", .free "isinstance", .free "int", .free "bool", .free "str", .free "tuple", .free "set", .glo "Bench", .cls "Bench", .noat "Bench" "lines", .noat "Bench" "laid", .noat "Bench" "past", .mkr "Bench", .meth "Bench" "put", .meth "Bench" "take_back", .meth "Bench" "comparers", .meth "Bench" "many", .meth "Bench" "wild", .int "MOST_LINES" 10, .int "MOST_COMPARERS" 60, .free "ValueError", .glo "BadLines", .glo "BadWeb", .glo "BadRow", .glo "BadPlace", .glo "BadOrder", .glo "BadText", .glo "NothingPut", .glo "WebError", .exc "NothingPut", .exm "BadLines" "WebError" true, .exm "BadWeb" "WebError" true, .exm "BadRow" "WebError" true, .exm "BadPlace" "WebError" true, .exm "BadOrder" "WebError" true, .exm "BadText" "WebError" true, .exm "NothingPut" "WebError" true]
def exL : List (PySem.W.Frag → Bool) := [lowB "BadWeb" "place", fun K => isB K (.ref (He.ga K "BadLines")) [("BadLines", true), ("BadWeb", false), ("BadRow", false), ("BadPlace", false), ("BadOrder", false), ("BadText", false), ("NothingPut", false)], fun K => isB K (.ref (He.ga K "BadOrder")) [("BadLines", false), ("BadWeb", false), ("BadRow", false), ("BadPlace", false), ("BadOrder", true), ("BadText", false), ("NothingPut", false)], fun K => isB K (.ref (He.ga K "BadPlace")) [("BadLines", false), ("BadWeb", false), ("BadRow", false), ("BadPlace", true), ("BadOrder", false), ("BadText", false), ("NothingPut", false)], fun K => isB K (.ref (He.ga K "BadRow")) [("BadLines", false), ("BadWeb", false), ("BadRow", true), ("BadPlace", false), ("BadOrder", false), ("BadText", false), ("NothingPut", false)], fun K => isB K (.ref (He.ga K "BadText")) [("BadLines", false), ("BadWeb", false), ("BadRow", false), ("BadPlace", false), ("BadOrder", false), ("BadText", true), ("NothingPut", false)], fun K => isB K (.ref (He.ga K "BadWeb")) [("BadLines", false), ("BadWeb", true), ("BadRow", false), ("BadPlace", false), ("BadOrder", false), ("BadText", false), ("NothingPut", false)], fun K => isB K (.ref (He.ga K "NothingPut")) [("BadLines", false), ("BadWeb", false), ("BadRow", false), ("BadPlace", false), ("BadOrder", false), ("BadText", false), ("NothingPut", true)], fun K => isB K (.type "ValueError") [("BadLines", true), ("BadWeb", true), ("BadRow", true), ("BadPlace", true), ("BadOrder", true), ("BadText", true), ("NothingPut", true)], fun K => placeB K "BadWeb"]
def exF (K : PySem.W.Frag) : Bool := exL.all fun f => f K
theorem exF_at {K : PySem.W.Frag} (h : exF K = true) (i : Nat) {f : PySem.W.Frag → Bool} (e : exL[i]? = some f) : f K = true := List.all_eq_true.mp h f (List.mem_of_getElem? e)
abbrev R : PySem.W.OpenRow := PySem.W.OpenLaw.row PySem.Challenge.rw_sortweb_k11_a_bench_by_deeds
abbrev hk : PySem.W.Hook := hookY 5 fa fn exF
def ob (s : PySem.W.SharedT) : He.AlD × Bool := obsY 5 fa fn exF (HandSHeadRun.getT s)
theorem ob_eq (s : PySem.W.SharedT) : ob s = hk.obs s.abs := obsY_eq (HandSHeadRun.getT_eq s)
def loose : List Str := (["WebError", "BadLines", "BadWeb", "BadRow", "BadPlace", "BadOrder", "BadText", "NothingPut", "MOST_LINES", "MOST_COMPARERS", "is_whole", "is_among", "is_comparer", "need_lines", "passed", "is_rising", "bare_rows", "put_through", "Bench", "_law_draw"] : List Str) ++ (["_law_gone", "_law_bare", "_law_is_bare", "_law_is_web", "_law_word", "_law_tried", "_law_ends", "_law_asked", "_law_deed", "_law_refused", "_law_full"] : List Str)
set_option maxHeartbeats 0 in
theorem run (w : PySem.World) : HandSHeadRun.RunEq R (PySem.W.view R.prog [37]) hk ob 6000 loose w := by
  intro os
  kernel_rfl
theorem facts {P : Program} {w : PySem.World} {K : PySem.W.Frag} {h : Heap} {mg : Str → Option Value} {f : Addr} (X : K.In h) (G : h.Ns mainGlobals mg) (hfa : mg ("law" : Str) = some (.ref f)) (c : He.SaysD fa fn K) (cx : exF K = true) :
    ∃ fd : FuncData, (∀ (s : Shared) (v : Value), BindsTo s fd ⟨[v], []⟩ [("_law_script", v)]) ∧ ∀ base : Heap, K.In base → base.Ns mainGlobals mg → FnOk P w K mg base CX0 7 f fd ["_law_script"] (spOf K sp_law) := by
  have GS : Gs mg := ⟨He.free_ok X G (c.fact 21 (f := .free "len") rfl), He.free_ok X G (c.fact 22 (f := .free "list") rfl), He.free_ok X G (c.fact 23 (f := .free "range") rfl), He.free_ok X G (c.fact 24 (f := .free "enumerate") rfl), He.free_ok X G (c.fact 25 (f := .free "zip") rfl), He.free_ok X G (c.fact 26 (f := .free "min") rfl), He.free_ok X G (c.fact 27 (f := .free "max") rfl), He.free_ok X G (c.fact 28 (f := .free "sum") rfl), He.free_ok X G (c.fact 29 (f := .free "sorted") rfl), He.free_ok X G (c.fact 30 (f := .free "all") rfl), He.free_ok X G (c.fact 31 (f := .free "isinstance") rfl), He.free_ok X G (c.fact 32 (f := .free "int") rfl), He.free_ok X G (c.fact 33 (f := .free "bool") rfl), He.free_ok X G (c.fact 34 (f := .free "str") rfl), He.free_ok X G (c.fact 35 (f := .free "tuple") rfl), He.free_ok X G (c.fact 36 (f := .free "set") rfl)⟩
  have BN : BnC K mg := ⟨He.glo_ok X G (c.fact 37 (f := .glo "Bench") rfl), He.cls_ok (c.fact 38 (f := .cls "Bench") rfl), He.noat_ok (c.fact 39 (f := .noat "Bench" "lines") rfl), He.noat_ok (c.fact 40 (f := .noat "Bench" "laid") rfl), He.noat_ok (c.fact 41 (f := .noat "Bench" "past") rfl)⟩
  have g_MOST_LINES := He.int_ok X G (c.fact 48 (f := .int "MOST_LINES" 10) rfl)
  have g_MOST_COMPARERS := He.int_ok X G (c.fact 49 (f := .int "MOST_COMPARERS" 60) rfl)
  have e_NothingPut : ErrC K mg "NothingPut" := ⟨_, He.glo_ok X G (c.fact 57 (f := .glo "NothingPut") rfl), He.exc_ok (c.fact 59 (f := .exc "NothingPut") rfl)⟩
  have hG_WebError : HndG K mg "WebError" [("BadLines", true), ("BadWeb", true), ("BadRow", true), ("BadPlace", true), ("BadOrder", true), ("BadText", true), ("NothingPut", true)] := hndG_mk (He.glo_ok X G (c.fact 58 (f := .glo "WebError") rfl)) ⟨⟨He.glo_ok X G (c.fact 51 (f := .glo "BadLines") rfl), He.exm_ok (c.fact 60 (f := .exm "BadLines" "WebError" true) rfl)⟩, ⟨He.glo_ok X G (c.fact 52 (f := .glo "BadWeb") rfl), He.exm_ok (c.fact 61 (f := .exm "BadWeb" "WebError" true) rfl)⟩, ⟨He.glo_ok X G (c.fact 53 (f := .glo "BadRow") rfl), He.exm_ok (c.fact 62 (f := .exm "BadRow" "WebError" true) rfl)⟩, ⟨He.glo_ok X G (c.fact 54 (f := .glo "BadPlace") rfl), He.exm_ok (c.fact 63 (f := .exm "BadPlace" "WebError" true) rfl)⟩, ⟨He.glo_ok X G (c.fact 55 (f := .glo "BadOrder") rfl), He.exm_ok (c.fact 64 (f := .exm "BadOrder" "WebError" true) rfl)⟩, ⟨He.glo_ok X G (c.fact 56 (f := .glo "BadText") rfl), He.exm_ok (c.fact 65 (f := .exm "BadText" "WebError" true) rfl)⟩, ⟨He.glo_ok X G (c.fact 57 (f := .glo "NothingPut") rfl), He.exm_ok (c.fact 66 (f := .exm "NothingPut" "WebError" true) rfl)⟩, trivial⟩
  have T_BadLines : IsC K mg "BadLines" [("BadLines", true), ("BadWeb", false), ("BadRow", false), ("BadPlace", false), ("BadOrder", false), ("BadText", false), ("NothingPut", false)] := isC_own (He.glo_ok X G (c.fact 51 (f := .glo "BadLines") rfl)) (exF_at cx 1 rfl)
  have T_BadOrder : IsC K mg "BadOrder" [("BadLines", false), ("BadWeb", false), ("BadRow", false), ("BadPlace", false), ("BadOrder", true), ("BadText", false), ("NothingPut", false)] := isC_own (He.glo_ok X G (c.fact 55 (f := .glo "BadOrder") rfl)) (exF_at cx 2 rfl)
  have T_BadPlace : IsC K mg "BadPlace" [("BadLines", false), ("BadWeb", false), ("BadRow", false), ("BadPlace", true), ("BadOrder", false), ("BadText", false), ("NothingPut", false)] := isC_own (He.glo_ok X G (c.fact 54 (f := .glo "BadPlace") rfl)) (exF_at cx 3 rfl)
  have T_BadRow : IsC K mg "BadRow" [("BadLines", false), ("BadWeb", false), ("BadRow", true), ("BadPlace", false), ("BadOrder", false), ("BadText", false), ("NothingPut", false)] := isC_own (He.glo_ok X G (c.fact 53 (f := .glo "BadRow") rfl)) (exF_at cx 4 rfl)
  have T_BadText : IsC K mg "BadText" [("BadLines", false), ("BadWeb", false), ("BadRow", false), ("BadPlace", false), ("BadOrder", false), ("BadText", true), ("NothingPut", false)] := isC_own (He.glo_ok X G (c.fact 56 (f := .glo "BadText") rfl)) (exF_at cx 5 rfl)
  have T_BadWeb : IsC K mg "BadWeb" [("BadLines", false), ("BadWeb", true), ("BadRow", false), ("BadPlace", false), ("BadOrder", false), ("BadText", false), ("NothingPut", false)] := isC_own (He.glo_ok X G (c.fact 52 (f := .glo "BadWeb") rfl)) (exF_at cx 6 rfl)
  have T_NothingPut : IsC K mg "NothingPut" [("BadLines", false), ("BadWeb", false), ("BadRow", false), ("BadPlace", false), ("BadOrder", false), ("BadText", false), ("NothingPut", true)] := isC_own (He.glo_ok X G (c.fact 57 (f := .glo "NothingPut") rfl)) (exF_at cx 7 rfl)
  have T_ValueError : IsC K mg "ValueError" [("BadLines", true), ("BadWeb", true), ("BadRow", true), ("BadPlace", true), ("BadOrder", true), ("BadText", true), ("NothingPut", true)] := isC_ve (He.free_ok X G (c.fact 50 (f := .free "ValueError") rfl)) (exF_at cx 8 rfl)
  have P_BadWeb : PlaceC K "BadWeb" := placeB_ok (exF_at cx 9 rfl)
  obtain ⟨fd_is_whole, F_is_whole⟩ := c.def_ 0 (d := hd_is_whole) rfl
  have m_is_whole := He.glo_ok X G (c.fact 0 (f := .glo "is_whole") rfl)
  obtain ⟨fd_is_among, F_is_among⟩ := c.def_ 1 (d := hd_is_among) rfl
  have m_is_among := He.glo_ok X G (c.fact 1 (f := .glo "is_among") rfl)
  obtain ⟨fd_is_comparer, F_is_comparer⟩ := c.def_ 2 (d := hd_is_comparer) rfl
  have m_is_comparer := He.glo_ok X G (c.fact 2 (f := .glo "is_comparer") rfl)
  obtain ⟨fd_need_lines, F_need_lines⟩ := c.def_ 3 (d := hd_need_lines) rfl
  have m_need_lines := He.glo_ok X G (c.fact 3 (f := .glo "need_lines") rfl)
  obtain ⟨fd_passed, F_passed⟩ := c.def_ 4 (d := hd_passed) rfl
  have m_passed := He.glo_ok X G (c.fact 4 (f := .glo "passed") rfl)
  obtain ⟨fd_is_rising, F_is_rising⟩ := c.def_ 5 (d := hd_is_rising) rfl
  have m_is_rising := He.glo_ok X G (c.fact 5 (f := .glo "is_rising") rfl)
  obtain ⟨fd_bare_rows, F_bare_rows⟩ := c.def_ 6 (d := hd_bare_rows) rfl
  have m_bare_rows := He.glo_ok X G (c.fact 6 (f := .glo "bare_rows") rfl)
  obtain ⟨fd_put_through, F_put_through⟩ := c.def_ 7 (d := hd_put_through) rfl
  have m_put_through := He.glo_ok X G (c.fact 7 (f := .glo "put_through") rfl)
  obtain ⟨fd_Bench_init, F_Bench_init⟩ := c.def_ 8 (d := hd_Bench_init) rfl
  have M_Bench_init := He.mkr_ok (c.fact 42 (f := .mkr "Bench") rfl)
  obtain ⟨fd_Bench_put, F_Bench_put⟩ := c.def_ 9 (d := hd_Bench_put) rfl
  have M_Bench_put := He.meth_ok (c.fact 43 (f := .meth "Bench" "put") rfl)
  obtain ⟨fd_Bench_take_back, F_Bench_take_back⟩ := c.def_ 10 (d := hd_Bench_take_back) rfl
  have M_Bench_take_back := He.meth_ok (c.fact 44 (f := .meth "Bench" "take_back") rfl)
  obtain ⟨fd_Bench_comparers, F_Bench_comparers⟩ := c.def_ 11 (d := hd_Bench_comparers) rfl
  have M_Bench_comparers := He.meth_ok (c.fact 45 (f := .meth "Bench" "comparers") rfl)
  obtain ⟨fd_Bench_many, F_Bench_many⟩ := c.def_ 12 (d := hd_Bench_many) rfl
  have M_Bench_many := He.meth_ok (c.fact 46 (f := .meth "Bench" "many") rfl)
  obtain ⟨fd_Bench_wild, F_Bench_wild⟩ := c.def_ 13 (d := hd_Bench_wild) rfl
  have M_Bench_wild := He.meth_ok (c.fact 47 (f := .meth "Bench" "wild") rfl)
  obtain ⟨fd__law_draw, F__law_draw⟩ := c.def_ 14 (d := hd__law_draw) rfl
  have m__law_draw := He.glo_ok X G (c.fact 8 (f := .glo "_law_draw") rfl)
  obtain ⟨fd__law_gone, F__law_gone⟩ := c.def_ 15 (d := hd__law_gone) rfl
  have m__law_gone := He.glo_ok X G (c.fact 9 (f := .glo "_law_gone") rfl)
  obtain ⟨fd__law_bare, F__law_bare⟩ := c.def_ 16 (d := hd__law_bare) rfl
  have m__law_bare := He.glo_ok X G (c.fact 10 (f := .glo "_law_bare") rfl)
  obtain ⟨fd__law_is_bare, F__law_is_bare⟩ := c.def_ 17 (d := hd__law_is_bare) rfl
  have m__law_is_bare := He.glo_ok X G (c.fact 11 (f := .glo "_law_is_bare") rfl)
  obtain ⟨fd__law_is_web, F__law_is_web⟩ := c.def_ 18 (d := hd__law_is_web) rfl
  have m__law_is_web := He.glo_ok X G (c.fact 12 (f := .glo "_law_is_web") rfl)
  obtain ⟨fd__law_word, F__law_word⟩ := c.def_ 19 (d := hd__law_word) rfl
  have m__law_word := He.glo_ok X G (c.fact 13 (f := .glo "_law_word") rfl)
  obtain ⟨fd__law_tried, F__law_tried⟩ := c.def_ 20 (d := hd__law_tried) rfl
  have m__law_tried := He.glo_ok X G (c.fact 14 (f := .glo "_law_tried") rfl)
  obtain ⟨fd__law_ends, F__law_ends⟩ := c.def_ 21 (d := hd__law_ends) rfl
  have m__law_ends := He.glo_ok X G (c.fact 15 (f := .glo "_law_ends") rfl)
  obtain ⟨fd__law_asked, F__law_asked⟩ := c.def_ 22 (d := hd__law_asked) rfl
  have m__law_asked := He.glo_ok X G (c.fact 16 (f := .glo "_law_asked") rfl)
  obtain ⟨fd__law_deed, F__law_deed⟩ := c.def_ 23 (d := hd__law_deed) rfl
  have m__law_deed := He.glo_ok X G (c.fact 17 (f := .glo "_law_deed") rfl)
  obtain ⟨fd__law_refused, F__law_refused⟩ := c.def_ 24 (d := hd__law_refused) rfl
  have m__law_refused := He.glo_ok X G (c.fact 18 (f := .glo "_law_refused") rfl)
  obtain ⟨fd__law_full, F__law_full⟩ := c.def_ 25 (d := hd__law_full) rfl
  have m__law_full := He.glo_ok X G (c.fact 19 (f := .glo "_law_full") rfl)
  obtain ⟨fd, F⟩ := c.def_ 26 (d := hd_law) rfl
  have e := hfa.symm.trans (He.glo_ok X G (c.fact 20 (f := .glo "law") rfl))
  cases e
  have b := FunD.bindsA (ps := ["_law_script"]) F fun _ _ _ _ _ _ us hl => match us, hl with | [_], _ => rfl
  refine ⟨fd, fun s v => b s [v] rfl, fun base _ _ => ?_⟩
  obtain ⟨fd_BW, F_BW⟩ := c.def_ 27 (d := hd_BadWeb_init) rfl
  have e_BadWeb : LowC P w K mg base "BadWeb" := low_mk (He.glo_ok X G (c.fact 52 (f := .glo "BadWeb") rfl)) (exF_at cx 0 rfl) F_BW (F_BW.bindsN fun _ _ _ _ _ _ us hl => match us, hl with | [_, _], _ => rfl) ⟨rfl, rfl, rfl, by decide +kernel, rfl, by decide +kernel, by decide +kernel⟩ fun cdv A outer s H E => pss_one (ps_ost (pe_var (i := 0) rfl (Or.inl rfl)) (pe_var (i := 1) rfl (Or.inl rfl)))
  have c_is_whole : CalD P w K mg base 1 "is_whole" sp_is_whole := ok_is_whole (k := 0) F_is_whole m_is_whole GS
  have c_is_among : CalD P w K mg base 2 "is_among" sp_is_among := ok_is_among (k := 1) F_is_among m_is_among GS (c_is_whole.mono (by decide))
  have c_is_comparer : CalD P w K mg base 3 "is_comparer" sp_is_comparer := ok_is_comparer (k := 2) F_is_comparer m_is_comparer GS (c_is_among.mono (by decide))
  have c_need_lines : CalD P w K mg base 3 "need_lines" sp_need_lines := ok_need_lines (k := 2) F_need_lines m_need_lines GS (c_is_among.mono (by decide)) g_MOST_LINES
  have c_passed : CalD P w K mg base 1 "passed" sp_passed := ok_passed (k := 0) F_passed m_passed GS
  have c_is_rising : CalD P w K mg base 1 "is_rising" sp_is_rising := ok_is_rising (k := 0) F_is_rising m_is_rising GS
  have c_bare_rows : CalD P w K mg base 1 "bare_rows" sp_bare_rows := ok_bare_rows (k := 0) F_bare_rows m_bare_rows GS
  have c_put_through : CalD P w K mg base 2 "put_through" sp_put_through := ok_put_through (k := 1) F_put_through m_put_through GS (c_passed.mono (by decide))
  have mk_Bench : MakeB P w K mg base 4 sp_Bench_init := ok_Bench_init (k := 3) F_Bench_init M_Bench_init GS (c_need_lines.mono (by decide)) (c_bare_rows.mono (by decide)) BN
  have bm_put : MethM P w K mg base 4 "put" sp_Bench_put := ok_Bench_put (k := 3) F_Bench_put M_Bench_put GS (c_is_comparer.mono (by decide)) (c_put_through.mono (by decide)) BN g_MOST_COMPARERS
  have mx_put : MethX P w K mg base 4 "put" spb_Bench_put := okx_Bench_put (k := 3) F_Bench_put M_Bench_put GS (c_is_comparer.mono (by decide)) (by decide) e_BadWeb BN g_MOST_COMPARERS
  have bm_take_back : MethM P w K mg base 3 "take_back" sp_Bench_take_back := ok_Bench_take_back (k := 2) F_Bench_take_back M_Bench_take_back GS BN
  have mx_take_back : MethX P w K mg base 3 "take_back" spb_Bench_take_back := okx_Bench_take_back (k := 2) F_Bench_take_back M_Bench_take_back GS e_NothingPut BN
  have bm_comparers : MethD P w K mg base 1 "comparers" sp_Bench_comparers := ok_Bench_comparers (k := 0) F_Bench_comparers M_Bench_comparers GS BN
  have bm_many : MethD P w K mg base 1 "many" sp_Bench_many := ok_Bench_many (k := 0) F_Bench_many M_Bench_many GS BN
  have bm_wild : MethD P w K mg base 2 "wild" sp_Bench_wild := ok_Bench_wild (k := 1) F_Bench_wild M_Bench_wild GS (c_is_rising.mono (by decide)) BN
  have c__law_draw : CalD P w K mg base 1 "_law_draw" sp__law_draw := ok__law_draw (k := 0) F__law_draw m__law_draw GS
  have c__law_gone : CalD P w K mg base 1 "_law_gone" sp__law_gone := ok__law_gone (k := 0) F__law_gone m__law_gone GS
  have c__law_bare : CalD P w K mg base 1 "_law_bare" sp__law_bare := ok__law_bare (k := 0) F__law_bare m__law_bare GS
  have c__law_is_bare : CalD P w K mg base 1 "_law_is_bare" sp__law_is_bare := ok__law_is_bare (k := 0) F__law_is_bare m__law_is_bare GS
  have c__law_is_web : CalD P w K mg base 1 "_law_is_web" sp__law_is_web := ok__law_is_web (k := 0) F__law_is_web m__law_is_web GS
  have c__law_word : CalD P w K mg base 1 "_law_word" sp__law_word := ok__law_word (k := 0) F__law_word m__law_word GS T_BadRow T_BadWeb T_BadLines T_BadOrder T_BadPlace T_NothingPut T_BadText T_ValueError
  have c__law_tried : CalD P w K mg base 5 "_law_tried" sp__law_tried := ok__law_tried (k := 4) F__law_tried m__law_tried GS hG_WebError BN (mx_take_back.mono (by decide)) (mx_put.mono (by decide))
  have c__law_ends : CalD P w K mg base 2 "_law_ends" sp__law_ends := ok__law_ends (k := 1) F__law_ends m__law_ends GS (c__law_bare.mono (by decide)) (c__law_gone.mono (by decide))
  have cp__law_asked : CalP P w K mg base 3 "_law_asked" spp__law_asked := ok__law_asked (k := 2) F__law_asked m__law_asked GS (c__law_ends.mono (by decide)) (c__law_is_web.mono (by decide)) BN (bm_comparers.mono (by decide)) (bm_many.mono (by decide)) (bm_wild.mono (by decide))
  have cp__law_deed : CalP P w K mg base 6 "_law_deed" spp__law_deed := ok__law_deed (k := 5) F__law_deed m__law_deed GS (c__law_draw.mono (by decide)) (c__law_word.mono (by decide)) (c__law_tried.mono (by decide)) (c__law_ends.mono (by decide)) BN (bm_take_back.mono (by decide)) (bm_put.mono (by decide))
  have c__law_refused : CalD P w K mg base 6 "_law_refused" sp__law_refused := ok__law_refused (k := 5) F__law_refused m__law_refused GS (c__law_tried.mono (by decide)) (c__law_word.mono (by decide)) P_BadWeb
  have c__law_full : CalD P w K mg base 6 "_law_full" sp__law_full := ok__law_full (k := 5) F__law_full m__law_full GS (c__law_tried.mono (by decide)) (c__law_word.mono (by decide)) P_BadWeb BN (bm_put.mono (by decide)) (bm_comparers.mono (by decide)) (bm_take_back.mono (by decide)) (j := 4) (by decide) mk_Bench
  exact ok_law (k := 6) F GS (c__law_draw.mono (by decide)) (c__law_full.mono (by decide)) (c__law_refused.mono (by decide)) (cp__law_deed.mono (by decide)) (cp__law_asked.mono (by decide)) BN (bm_comparers.mono (by decide)) (j := 4) (by decide) mk_Bench
end W
set_option maxHeartbeats 0
open PySem PySem.W PySem.Calls PyProof.Rows
theorem PySem.Challenge.cw_sortweb_k11_a_bench_by_deeds_holds : PySem.Challenge.rw_sortweb_k11_a_bench_by_deeds.Holds := by
  w_on; o_law
  refine HandSHeadRun.head_any (r := OpenLaw.row PySem.Challenge.rw_sortweb_k11_a_bench_by_deeds) (q := view (OpenLaw.row PySem.Challenge.rw_sortweb_k11_a_bench_by_deeds).prog [37]) (H := _root_.W.hk) (ob := _root_.W.ob) (M := 6000) (loose := _root_.W.loose) (d := HandSHeadRun.topDef (OpenLaw.row PySem.Challenge.rw_sortweb_k11_a_bench_by_deeds).prog 37) (kwd := []) _root_.W.ob_eq
    (by kernel_rfl) (fun s => by kernel_rfl) _root_.W.run (by kernel_rfl) (by kernel_rfl) (by kernel_rfl) (by rfl) (by first | assumption | decide +kernel) (by decide +kernel) ⟨rfl, rfl, rfl, rfl, rfl, by decide +kernel⟩ ?hw ?hc
  case hw => w_witness2
  case hc =>
    refine L2.walk_ofE (l := PySem.Challenge.rw_sortweb_k11_a_bench_by_deeds) (n := 63) (k := 7) (x := "_law_script") (CX := L2.CX0) rfl (by decide) (by kernel_rfl) ⟨rfl, by decide, by decide⟩ ?F (fun _ _ _ _ z => z)
    intro w mg fa h Y G hmg0
    obtain ⟨K, KX, c, cx⟩ := Y
    have hmg : mg ("law" : PySem.Str) = some (.ref fa) := by
      have e : (HandSHeadRun.topDef (OpenLaw.row PySem.Challenge.rw_sortweb_k11_a_bench_by_deeds).prog 37).name = ("law" : PySem.Str) := by kernel_rfl
      rw [← e]
      exact hmg0
    obtain ⟨fd, hb, hF⟩ := _root_.W.facts (P := (PySem.Challenge.rw_sortweb_k11_a_bench_by_deeds).prog) (w := w) KX G hmg c cx
    exact ⟨K, fd, _root_.W.spOf K _root_.W.sp_law, KX, hb, fun H a ns hl _ hS => _root_.W.law_of (fun ns _ => ⟨ns, rfl, rfl⟩) hl hS _, hF⟩
