import PyProof.Rows.All
import Wide.All
import OpenK.AllK
import Wide.FinOn
import KE.KStateDown
import HandS.ForMost
import HandS.More
import HandS.WordsExc
import HandS.Defaults
import HandS.Walk
import HandS.Zip
import HandS.TupAny
import HandS.TupMul
import HandS.Deep
import HandS.IsInst
import KE.SortData
import PyProof.Rows.InDataRows
import KE.GoesMore
import KE.GoesEnum
import HandS.Conv
import HandS.HeadHook2
import HandS.SetBool
import HandS.SetFor
import HandS.SetKeys
import HandS.Comp
import PyProof.ReprLen
import HandS.CallLocal
import HandS.Style
import PyProof.StrBlock2
import HandS.HeadHook4
import PyProof.DictCalls
import PyProof.Rows.IntBool
import HandS.Dict
import HandS.Head0
import HandS.Head1
import HandS.Head2
import HandS.HeadEnd
import HandS.HeadHook1
import HandS.HeadHook3
import PySem.Challenge.RW_mixedbags_k17_prices_by_kind
set_option Elab.async false
set_option linter.all false
set_option maxRecDepth 100000
set_option maxHeartbeats 4000000
set_option autoImplicit false
namespace Dn
open PySem PySem.Spec PyProof.Rows L2
/-- an object of one's own -/
inductive Ob where
  | lst (xs : List PyData)
  | dic (kvs : List (PyData × PyData))
/-- what a name holds: data; an object of its own (b: it may be given away); a def; the script -/
inductive Sl where
  | dat (d : PyData)
  | own (b : Bool) (o : Ob)
  | fn (f : Str)
  | scr (ns : List Int)
abbrev DEnv := List (Option Sl)
/-- a value: data; a new object of nobody's; the object of the i-th name; a def -/
inductive DV where
  | dat (d : PyData)
  | own (o : Ob)
  | loc (i : Nat)
  | fn (f : Str)
  | scr (ns : List Int)
  | pr (d : PyData) (o : Ob)
inductive R (A : Type) where
  | ok (a : A)
  | exc (c : Str) (fs : List PyData) (r : DEnv)
  | stuck
def R.bind {A B : Type} (x : R A) (f : A → R B) : R B := match x with
  | .ok a => f a
  | .exc c fs r => .exc c fs r
  | .stuck => .stuck
def Ob.data : Ob → Option PyData
  | .lst xs => some (.list xs)
  | .dic _ => none
/-! ### data on the heap -/
mutual
/-- v stands for d, every object of it tracked -/
inductive Dq (H : Hp) : V → PyData → Prop
  | non : Dq H .non .none
  | bl (b : Bool) : Dq H (.bl b) (.bool b)
  | int (i : Int) : Dq H (.int i) (.int i)
  | str (x : Str) : Dq H (.str x) (.str x)
  | lst {a : Addr} {xs : List V} {ds : List PyData} : H a = some (.lst xs) → DqAll H xs ds → Dq H (.ref a) (.list ds)
  | tup {a : Addr} {xs : List V} {ds : List PyData} : H a = some (.tup xs) → DqAll H xs ds → Dq H (.ref a) (.tuple ds)
inductive DqAll (H : Hp) : List V → List PyData → Prop
  | nil : DqAll H [] []
  | cons {v : V} {vs : List V} {d : PyData} {ds : List PyData} : Dq H v d → DqAll H vs ds → DqAll H (v :: vs) (d :: ds)
end
mutual
theorem Dq.mono {G G' : Hp} (m : Same G G') : ∀ {v : V} {d : PyData}, Dq G v d → Dq G' v d
  | _, _, .non => .non
  | _, _, .bl b => .bl b
  | _, _, .int i => .int i
  | _, _, .str x => .str x
  | _, _, .lst h ha => .lst (m _ _ h) (DqAll.mono m ha)
  | _, _, .tup h ha => .tup (m _ _ h) (DqAll.mono m ha)
theorem DqAll.mono {G G' : Hp} (m : Same G G') : ∀ {vs : List V} {ds : List PyData}, DqAll G vs ds → DqAll G' vs ds
  | _, _, .nil => .nil
  | _, _, .cons h t => .cons (Dq.mono m h) (DqAll.mono m t)
end
mutual
theorem dq_dp {K : PySem.W.Frag} {H : Hp} : ∀ {v : V} {d : PyData}, Dq H v d → Dp K H v d
  | _, _, .non => .non
  | _, _, .bl b => .bl b
  | _, _, .int i => .int i
  | _, _, .str x => .str x
  | _, _, .lst h ha => .lst (SqL.of h) (dqAll_dp ha)
  | _, _, .tup h ha => .tup (SqT.of h) (dqAll_dp ha)
theorem dqAll_dp {K : PySem.W.Frag} {H : Hp} : ∀ {vs : List V} {ds : List PyData}, DqAll H vs ds → DpAll K H vs ds
  | _, _, .nil => .nil
  | _, _, .cons h t => .cons (dq_dp h) (dqAll_dp t)
end
theorem SqL.mono {K : PySem.W.Frag} {G G' : Hp} (m : Same G G') {a : Addr} {xs : List V} (h : SqL K G a xs) : SqL K G' a xs := m.seq h
theorem DqAll.length {G : Hp} : ∀ {vs : List V} {ds : List PyData}, DqAll G vs ds → vs.length = ds.length
  | _, _, .nil => rfl
  | _, _, .cons _ t => by rw [List.length_cons, List.length_cons, DqAll.length t]
theorem DqAll.get {G : Hp} : ∀ {vs : List V} {ds : List PyData} {i : Nat} {d : PyData}, DqAll G vs ds → ds[i]? = some d → ∃ v, vs[i]? = some v ∧ Dq G v d
  | _, _, _, _, .nil, e => by simp at e
  | _, _, 0, _, .cons h _, e => by simp at e; subst e; exact ⟨_, rfl, h⟩
  | _, _, i + 1, d, .cons _ t, e => by
    obtain ⟨v, h1, h2⟩ := DqAll.get (i := i) (d := d) t (by simpa using e)
    exact ⟨v, by simpa using h1, h2⟩
theorem DqAll.get' {G : Hp} : ∀ {vs : List V} {ds : List PyData} {i : Nat} {v : V}, DqAll G vs ds → vs[i]? = some v → ∃ d, ds[i]? = some d ∧ Dq G v d
  | _, _, _, _, .nil, e => by simp at e
  | _, _, 0, _, .cons h _, e => by simp at e; subst e; exact ⟨_, rfl, h⟩
  | _, _, i + 1, v, .cons _ t, e => by
    obtain ⟨d, h1, h2⟩ := DqAll.get' (i := i) (v := v) t (by simpa using e)
    exact ⟨d, by simpa using h1, h2⟩
theorem DqAll.append {G : Hp} : ∀ {vs ws : List V} {ds es : List PyData}, DqAll G vs ds → DqAll G ws es → DqAll G (vs ++ ws) (ds ++ es)
  | _, _, _, _, .nil, s => s
  | _, _, _, _, .cons h t, s => .cons h (DqAll.append t s)
theorem DqAll.take {G : Hp} : ∀ {vs : List V} {ds : List PyData} (n : Nat), DqAll G vs ds → DqAll G (vs.take n) (ds.take n)
  | _, _, 0, _ => .nil
  | _, _, _ + 1, .nil => .nil
  | _, _, n + 1, .cons h t => .cons h (DqAll.take n t)
theorem DqAll.drop {G : Hp} : ∀ {vs : List V} {ds : List PyData} (n : Nat), DqAll G vs ds → DqAll G (vs.drop n) (ds.drop n)
  | _, _, 0, h => h
  | _, _, _ + 1, .nil => .nil
  | _, _, n + 1, .cons _ t => DqAll.drop n t
theorem DqAll.set {G : Hp} {v : V} {d : PyData} (h : Dq G v d) : ∀ {vs : List V} {ds : List PyData} (n : Nat), DqAll G vs ds → DqAll G (vs.set n v) (ds.set n d)
  | _, _, _, .nil => .nil
  | _, _, 0, .cons _ t => .cons h t
  | _, _, n + 1, .cons q t => .cons q (DqAll.set h n t)
theorem DqAll.eraseIdx {G : Hp} : ∀ {vs : List V} {ds : List PyData} (n : Nat), DqAll G vs ds → DqAll G (vs.eraseIdx n) (ds.eraseIdx n)
  | _, _, _, .nil => .nil
  | _, _, 0, .cons _ t => t
  | _, _, n + 1, .cons q t => .cons q (DqAll.eraseIdx n t)
theorem DqAll.reverse {G : Hp} : ∀ {vs : List V} {ds : List PyData}, DqAll G vs ds → DqAll G vs.reverse ds.reverse
  | _, _, .nil => .nil
  | _, _, .cons h t => by
    rw [List.reverse_cons, List.reverse_cons]
    exact DqAll.append (DqAll.reverse t) (.cons h .nil)
/-- a key of a dict as data -/
def keyD : Key → PyData
  | .inl i => .int i
  | .inr x => .str x
def DicOk (G : Hp) (o : HO) (kvs : List (PyData × PyData)) : Prop :=
  ∃ ks : List (Key × V), o = .dK ks ∧ Paired (fun (p : Key × V) (q : PyData × PyData) => keyD p.1 = q.1 ∧ Dq G p.2 q.2) ks kvs
def HoOk (G : Hp) (ho : HO) : Ob → Prop
  | .lst ds => ∃ vs, ho = .lst vs ∧ DqAll G vs ds
  | .dic kvs => DicOk G ho kvs
theorem HoOk.mono {G G' : Hp} (m : Same G G') {ho : HO} {o : Ob} (h : HoOk G ho o) : HoOk G' ho o := by
  cases o with
  | lst ds => obtain ⟨vs, e, h⟩ := h; exact ⟨vs, e, DqAll.mono m h⟩
  | dic kvs =>
    obtain ⟨ks, e, h⟩ := h
    exact ⟨ks, e, Paired.mapP h fun _ _ z => ⟨z.1, Dq.mono m z.2⟩⟩
def ObOk (G H : Hp) (a : Addr) (o : Ob) : Prop := G a = none ∧ ∃ ho, H a = some ho ∧ HoOk G ho o
def SlOk (K : PySem.W.Frag) (mg : Str → Option Value) (G H : Hp) (v : V) : Sl → Prop
  | .dat d => Dq G v d
  | .own _ o => ∃ a, v = .ref a ∧ ObOk G H a o
  | .fn f => ∃ a, v = .ref a ∧ mg f = some (.ref a)
  | .scr ns => ∃ a, v = .ref a ∧ SqL K G a (ns.map V.int)
/-- what a def was entered with: the ground, the heap, the caller's objects that it may change -/
structure Fm where
  G : Hp
  H : Hp
  own : List (Nat × Addr)
abbrev Fm.ex (fr : Fm) : List Addr := fr.own.map (·.2)
structure Rel (K : PySem.W.Frag) (mg : Str → Option Value) (fr : Fm) (T : List (Addr × Ob)) (G : Hp) (r : DEnv) (s : L2.St) (H : Hp) : Prop where
  sub : Same G H
  g0 : Same fr.G G
  new : ∀ a, fr.H a ≠ none → G a ≠ none → fr.G a ≠ none
  keep : ∀ a o, fr.H a = some o → a ∉ fr.ex → H a = some o
  exs : ∀ a, a ∈ fr.ex → H a ≠ none
  len : r.length = s.length
  slot : ∀ (i : Nat) (sl : Sl), r[i]? = some (some sl) → ∃ v, s[i]? = some (some v) ∧ SlOk K mg G H v sl
  home : ∀ (i : Nat) (b : Bool) (o : Ob) (a : Addr), r[i]? = some (some (.own b o)) → s[i]? = some (some (.ref a)) → (b = true ∧ fr.H a = none) ∨ (b = false ∧ (i, a) ∈ fr.own)
  apart : ∀ (i j : Nat) (b : Bool) (o : Ob) (b' : Bool) (o' : Ob) (a : Addr), r[i]? = some (some (.own b o)) → s[i]? = some (some (.ref a)) → r[j]? = some (some (.own b' o')) → s[j]? = some (some (.ref a)) → i = j
  tmp : ∀ t, t ∈ T → ObOk G H t.1 t.2 ∧ fr.H t.1 = none
  tapart : ∀ t, t ∈ T → ∀ (i : Nat) (b : Bool) (o : Ob), r[i]? = some (some (.own b o)) → s[i]? ≠ some (some (.ref t.1))
  tnd : (T.map (·.1)).Nodup
/-- the ground and the heap grow -/
structure Ext (G H G' H' : Hp) : Prop where
  mono : Same G G'
  sub : Same G' H'
  keep : Same H H'
  new : ∀ a, G' a ≠ none → G a ≠ none ∨ H a = none
theorem Ext.refl {G H : Hp} (h : Same G H) : Ext G H G H := ⟨.refl _, h, .refl _, fun _ z => .inl z⟩
theorem ne_none_of {H : Hp} {a : Addr} {o : HO} (h : H a = some o) : H a ≠ none := by rw [h]; exact Option.some_ne_none _
theorem Ext.trans {G H G1 H1 G2 H2 : Hp} (a : Ext G H G1 H1) (b : Ext G1 H1 G2 H2) : Ext G H G2 H2 :=
  ⟨a.mono.trans b.mono, b.sub, a.keep.trans b.keep, fun x z => (b.new x z).elim (a.new x) fun q => .inr (a.keep.free q)⟩
/-- a new object of the ground -/
theorem Ext.lay {G H : Hp} {p : Addr} {o : HO} (h : Same G H) (hp : H p = none) : Ext G H (upd G p o) (upd H p o) := by
  have gp : G p = none := h.free hp
  refine ⟨fun b u e => ?_, fun b u e => ?_, fun b u e => ?_, fun b z => ?_⟩
  · rw [upd_ne (ne_of_none e gp)]; exact e
  · by_cases hb : b = p
    · subst hb; rw [upd_same] at e ⊢; exact e
    · rw [upd_ne hb] at e ⊢; exact h b u e
  · rw [upd_ne (ne_of_none e hp)]; exact e
  · by_cases hb : b = p
    · subst hb; exact .inr hp
    · rw [upd_ne hb] at z; exact .inl z
/-- a new object beside the ground -/
theorem Ext.beside {G H : Hp} {p : Addr} {o : HO} (h : Same G H) (hp : H p = none) : Ext G H G (upd H p o) :=
  ⟨.refl _, fun b u e => by rw [upd_ne (ne_of_none (h b u e) hp)]; exact h b u e, fun b u e => by rw [upd_ne (ne_of_none e hp)]; exact e, fun _ z => .inl z⟩
section
variable {K : PySem.W.Frag} {mg : Str → Option Value} {fr : Fm} {T : List (Addr × Ob)} {G G' : Hp} {r : DEnv} {s : L2.St} {H H' : Hp}
theorem ObOk.ext {a : Addr} {o : Ob} (h : ObOk G H a o) (e : Ext G H G' H') : ObOk G' H' a o := by
  obtain ⟨g, ho, hh, q⟩ := h
  refine ⟨?_, ho, e.keep _ _ hh, HoOk.mono e.mono q⟩
  cases z : G' a with
  | none => rfl
  | some u =>
    rcases e.new a (ne_none_of z) with z | z
    · exact absurd g z
    · rw [hh] at z; cases z
theorem SlOk.ext {v : V} {sl : Sl} (h : SlOk K mg G H v sl) (e : Ext G H G' H') : SlOk K mg G' H' v sl := by
  cases sl with
  | scr ns => obtain ⟨a, ev, h⟩ := h; exact ⟨a, ev, SqL.mono e.mono h⟩
  | dat d => exact Dq.mono e.mono h
  | own b o => obtain ⟨a, ev, h⟩ := h; exact ⟨a, ev, h.ext e⟩
  | fn f => exact h
theorem Rel.free (h : Rel K mg fr T G r s H) {p : Addr} (hp : H p = none) : fr.H p = none := by
  cases z : fr.H p with
  | none => rfl
  | some o =>
    by_cases hx : p ∈ fr.ex
    · exact absurd hp (h.exs p hx)
    · rw [h.keep p o z hx] at hp; cases hp
theorem Rel.ext (h : Rel K mg fr T G r s H) (e : Ext G H G' H') : Rel K mg fr T G' r s H' where
  sub := e.sub
  g0 := h.g0.trans e.mono
  new := fun a z q => by
    rcases e.new a q with q | q
    · exact h.new a z q
    · exact absurd (h.free q) z
  keep := fun a o z hx => e.keep _ _ (h.keep a o z hx)
  exs := fun a hx => by
    cases z : H a with
    | none => exact absurd z (h.exs a hx)
    | some o => exact ne_none_of (e.keep _ _ z)
  len := h.len
  slot := fun i sl z => let ⟨v, e1, q⟩ := h.slot i sl z; ⟨v, e1, q.ext e⟩
  home := h.home
  apart := h.apart
  tmp := fun t ht => ⟨(h.tmp t ht).1.ext e, (h.tmp t ht).2⟩
  tapart := h.tapart
  tnd := h.tnd
theorem Rel.sameAt (h : Rel K mg fr T G r s H) {p : Addr} (hp : H p = none) : G p = none := h.sub.free hp
/-- a new object of nobody's -/
theorem Rel.push (h : Rel K mg fr T G r s H) {p : Addr} {ho : HO} {o : Ob} (hp : H p = none) (q : HoOk G ho o) : Rel K mg fr ((p, o) :: T) G r s (upd H p ho) := by
  have e : Ext G H G (upd H p ho) := Ext.beside h.sub hp
  have h1 := h.ext e
  refine { h1 with tmp := fun t ht => ?_, tapart := fun t ht i b ob z => ?_, tnd := ?_ }
  · rcases List.mem_cons.mp ht with rfl | ht
    · exact ⟨⟨h.sameAt hp, ho, upd_same, q⟩, h.free hp⟩
    · exact h1.tmp t ht
  · rcases List.mem_cons.mp ht with rfl | ht
    · intro zz
      obtain ⟨v, ev, a, ea, _, hq, hh, _⟩ := h.slot i _ z
      rw [zz] at ev
      have : V.ref p = v := by injection ev with ev; injection ev
      rw [← this] at ea
      injection ea with ea
      rw [← ea, hp] at hh; cases hh
    · exact h.tapart t ht i b ob z
  · rw [List.map_cons, List.nodup_cons]
    refine ⟨fun hm => ?_, h.tnd⟩
    obtain ⟨t, ht, et⟩ := List.mem_map.mp hm
    obtain ⟨_, hq, hh, _⟩ := (h.tmp t ht).1
    rw [et, hp] at hh; cases hh
theorem Rel.drop {t : Addr × Ob} (h : Rel K mg fr (t :: T) G r s H) : Rel K mg fr T G r s H :=
  { h with tmp := fun u hu => h.tmp u (List.mem_cons_of_mem _ hu), tapart := fun u hu => h.tapart u (List.mem_cons_of_mem _ hu), tnd := (List.nodup_cons.mp h.tnd).2 }
theorem Rel.tne {t : Addr × Ob} (h : Rel K mg fr (t :: T) G r s H) {u : Addr × Ob} (hu : u ∈ T) : u.1 ≠ t.1 := fun e =>
  (List.nodup_cons.mp h.tnd).1 (by show t.1 ∈ T.map (·.1); rw [← e]; exact List.mem_map_of_mem hu)
/-- an object of nobody's changes -/
theorem Rel.writeT {a : Addr} {o o' : Ob} {ho' : HO} (h : Rel K mg fr ((a, o) :: T) G r s H) (q : HoOk G ho' o') : Rel K mg fr ((a, o') :: T) G r s (upd H a ho') := by
  have g : G a = none := (h.tmp _ List.mem_cons_self).1.1
  have fa : fr.H a = none := (h.tmp _ List.mem_cons_self).2
  have sb : Same G (upd H a ho') := fun b u e => by rw [upd_ne (ne_of_none e g)]; exact h.sub b u e
  refine ⟨sb, h.g0, h.new, fun b u e hx => ?_, fun b hx => ?_, h.len, fun i sl z => ?_, h.home, h.apart, fun t ht => ?_, fun t ht => ?_, h.tnd⟩
  · rw [upd_ne (ne_of_none e fa)]; exact h.keep b u e hx
  · by_cases hb : b = a
    · subst hb; rw [upd_same]; exact Option.some_ne_none _
    · rw [upd_ne hb]; exact h.exs b hx
  · obtain ⟨v, ev, hq⟩ := h.slot i sl z
    refine ⟨v, ev, ?_⟩
    cases sl with
    | dat d => exact hq
    | fn f => exact hq
    | scr ns => exact hq
    | own b ob =>
      obtain ⟨c, ec, g', hc, hh, q'⟩ := hq
      have ne : c ≠ a := fun z' => h.tapart _ List.mem_cons_self i b ob z (by rw [ev, ec, z'])
      exact ⟨c, ec, g', hc, by rw [upd_ne ne]; exact hh, q'⟩
  · rcases List.mem_cons.mp ht with rfl | ht
    · exact ⟨⟨g, ho', upd_same, q⟩, fa⟩
    · obtain ⟨⟨g', hc, hh, q'⟩, f⟩ := h.tmp t (List.mem_cons_of_mem _ ht)
      exact ⟨⟨g', hc, by rw [upd_ne (h.tne ht)]; exact hh, q'⟩, f⟩
  · rcases List.mem_cons.mp ht with rfl | ht
    · exact h.tapart (a, o) List.mem_cons_self
    · exact h.tapart t (List.mem_cons_of_mem _ ht)
/-- an object of nobody's becomes part of the ground -/
theorem Rel.freezeT {a : Addr} {ds : List PyData} (h : Rel K mg fr ((a, .lst ds) :: T) G r s H) :
    ∃ vs, H a = some (.lst vs) ∧ Same G (upd G a (.lst vs)) ∧ Rel K mg fr T (upd G a (.lst vs)) r s H ∧ Dq (upd G a (.lst vs)) (.ref a) (.list ds) := by
  obtain ⟨⟨g, ho, hh, vs, rfl, q⟩, fa⟩ := h.tmp _ List.mem_cons_self
  have m : Same G (upd G a (.lst vs)) := fun b u e => by rw [upd_ne (ne_of_none e g)]; exact e
  have keepN : ∀ b, b ≠ a → G b = none → upd G a (.lst vs) b = none := fun b hb e => by rw [upd_ne hb]; exact e
  refine ⟨vs, hh, m, ⟨fun b u e => ?_, h.g0.trans m, fun b z z2 => ?_, h.keep, h.exs, h.len, fun i sl z => ?_, h.home, h.apart, fun t ht => ?_, fun t ht => h.tapart t (List.mem_cons_of_mem _ ht), (List.nodup_cons.mp h.tnd).2⟩, .lst upd_same (DqAll.mono m q)⟩
  · by_cases hb : b = a
    · subst hb; rw [upd_same] at e; cases e; exact hh
    · rw [upd_ne hb] at e; exact h.sub b u e
  · by_cases hb : b = a
    · subst hb; exact absurd fa z
    · rw [upd_ne hb] at z2; exact h.new b z z2
  · obtain ⟨v, ev, hq⟩ := h.slot i sl z
    refine ⟨v, ev, ?_⟩
    cases sl with
    | dat d => exact Dq.mono m hq
    | fn f => exact hq
    | scr ns => obtain ⟨a, ev', h'⟩ := hq; exact ⟨a, ev', SqL.mono m h'⟩
    | own b ob =>
      obtain ⟨c, ec, g', hc, hh', q'⟩ := hq
      have ne : c ≠ a := fun z' => h.tapart _ List.mem_cons_self i b ob z (by rw [ev, ec, z'])
      exact ⟨c, ec, keepN c ne g', hc, hh', HoOk.mono m q'⟩
  · obtain ⟨⟨g', hc, hh', q'⟩, f⟩ := h.tmp t (List.mem_cons_of_mem _ ht)
    exact ⟨⟨keepN _ (h.tne ht) g', hc, hh', HoOk.mono m q'⟩, f⟩
theorem set_some {A : Type} {l : List A} {i j : Nat} {x y : A} (h : (l.set i x)[j]? = some y) : (j = i ∧ y = x ∧ i < l.length) ∨ (j ≠ i ∧ l[j]? = some y) := by
  by_cases e : i = j
  · subst e
    by_cases hl : i < l.length
    · rw [List.getElem?_set_self hl] at h; cases h; exact .inl ⟨rfl, rfl, hl⟩
    · rw [List.getElem?_eq_none (by simpa using hl)] at h; cases h
  · rw [List.getElem?_set_ne e] at h
    exact .inr ⟨fun z => e z.symm, h⟩
/-- a name takes data -/
theorem Rel.setDat (h : Rel K mg fr T G r s H) {i : Nat} {v : V} {d : PyData} (q : Dq G v d) : Rel K mg fr T G (r.set i (some (.dat d))) (s.set i (some v)) H := by
  have low : ∀ {j : Nat} {b : Bool} {o : Ob}, (r.set i (some (Sl.dat d)))[j]? = some (some (.own b o)) → j ≠ i ∧ r[j]? = some (some (.own b o)) := fun {j b o} z => by
    rcases set_some z with ⟨_, z, _⟩ | z
    · cases z
    · exact z
  have ss : ∀ {j : Nat}, j ≠ i → (s.set i (some v))[j]? = s[j]? := fun {j} hj => List.getElem?_set_ne (Ne.symm hj)
  refine ⟨h.sub, h.g0, h.new, h.keep, h.exs, by rw [List.length_set, List.length_set, h.len], fun j sl z => ?_, fun j b o a z z2 => ?_, fun j k b o b' o' a z1 z2 z3 z4 => ?_, h.tmp, fun t ht j b o z => ?_, h.tnd⟩
  · rcases set_some z with ⟨rfl, z, hl⟩ | ⟨ne, z⟩
    · cases z
      exact ⟨v, List.getElem?_set_self (by rw [← h.len]; exact hl), q⟩
    · rw [ss ne]; exact h.slot j sl z
  · obtain ⟨ne, z⟩ := low z
    rw [ss ne] at z2
    exact h.home j b o a z z2
  · obtain ⟨ne, z1⟩ := low z1
    obtain ⟨ne', z3⟩ := low z3
    rw [ss ne] at z2
    rw [ss ne'] at z4
    exact h.apart j k b o b' o' a z1 z2 z3 z4
  · obtain ⟨ne, z⟩ := low z
    rw [ss ne]
    exact h.tapart t ht j b o z
/-- a name takes a def -/
theorem Rel.setFn (h : Rel K mg fr T G r s H) {i : Nat} {a : Addr} {f : Str} (q : mg f = some (.ref a)) : Rel K mg fr T G (r.set i (some (.fn f))) (s.set i (some (.ref a))) H := by
  have low : ∀ {j : Nat} {b : Bool} {o : Ob}, (r.set i (some (Sl.fn f)))[j]? = some (some (.own b o)) → j ≠ i ∧ r[j]? = some (some (.own b o)) := fun {j b o} z => by
    rcases set_some z with ⟨_, z, _⟩ | z
    · cases z
    · exact z
  have ss : ∀ {j : Nat}, j ≠ i → (s.set i (some (V.ref a)))[j]? = s[j]? := fun {j} hj => List.getElem?_set_ne (Ne.symm hj)
  refine ⟨h.sub, h.g0, h.new, h.keep, h.exs, by rw [List.length_set, List.length_set, h.len], fun j sl z => ?_, fun j b o a z z2 => ?_, fun j k b o b' o' a z1 z2 z3 z4 => ?_, h.tmp, fun t ht j b o z => ?_, h.tnd⟩
  · rcases set_some z with ⟨rfl, z, hl⟩ | ⟨ne, z⟩
    · cases z
      exact ⟨.ref a, List.getElem?_set_self (by rw [← h.len]; exact hl), a, rfl, q⟩
    · rw [ss ne]; exact h.slot j sl z
  · obtain ⟨ne, z⟩ := low z
    rw [ss ne] at z2
    exact h.home j b o a z z2
  · obtain ⟨ne, z1⟩ := low z1
    obtain ⟨ne', z3⟩ := low z3
    rw [ss ne] at z2
    rw [ss ne'] at z4
    exact h.apart j k b o b' o' a z1 z2 z3 z4
  · obtain ⟨ne, z⟩ := low z
    rw [ss ne]
    exact h.tapart t ht j b o z
/-- a name takes a new object -/
theorem Rel.setOwn {a : Addr} {o : Ob} (h : Rel K mg fr ((a, o) :: T) G r s H) {i : Nat} : Rel K mg fr T G (r.set i (some (.own true o))) (s.set i (some (.ref a))) H := by
  have d := h.drop
  obtain ⟨ob, fa⟩ := h.tmp _ List.mem_cons_self
  have low : ∀ {j : Nat} {b : Bool} {o' : Ob}, (r.set i (some (Sl.own true o)))[j]? = some (some (.own b o')) → (j = i ∧ b = true ∧ i < r.length) ∨ (j ≠ i ∧ r[j]? = some (some (.own b o'))) := fun {j b o'} z => by
    rcases set_some z with ⟨e, z, hl⟩ | z
    · cases z; exact .inl ⟨e, rfl, hl⟩
    · exact .inr z
  have ss : ∀ {j : Nat}, j ≠ i → (s.set i (some (V.ref a)))[j]? = s[j]? := fun {j} hj => List.getElem?_set_ne (Ne.symm hj)
  have si : i < r.length → (s.set i (some (V.ref a)))[i]? = some (some (V.ref a)) := fun hl => List.getElem?_set_self (by rw [← h.len]; exact hl)
  refine ⟨h.sub, h.g0, h.new, h.keep, h.exs, by rw [List.length_set, List.length_set, h.len], fun j sl z => ?_, fun j b o' c z z2 => ?_, fun j k b o1 b' o2 c z1 z2 z3 z4 => ?_, d.tmp, fun t ht j b o' z => ?_, d.tnd⟩
  · rcases set_some z with ⟨rfl, z, hl⟩ | ⟨ne, z⟩
    · cases z
      exact ⟨.ref a, si hl, a, rfl, ob⟩
    · rw [ss ne]; exact h.slot j sl z
  · rcases low z with ⟨rfl, rfl, hl⟩ | ⟨ne, z⟩
    · rw [si hl] at z2
      cases z2
      exact .inl ⟨rfl, fa⟩
    · rw [ss ne] at z2
      exact h.home j b o' c z z2
  · rcases low z1 with ⟨rfl, _, hl⟩ | ⟨ne, w1⟩
    · rcases low z3 with ⟨rfl, _, _⟩ | ⟨ne', w3⟩
      · rfl
      · rw [si hl] at z2
        cases z2
        rw [ss ne'] at z4
        exact absurd z4 (h.tapart _ List.mem_cons_self k b' o2 w3)
    · rcases low z3 with ⟨rfl, _, hl⟩ | ⟨ne', w3⟩
      · rw [si hl] at z4
        cases z4
        rw [ss ne] at z2
        exact absurd z2 (h.tapart _ List.mem_cons_self j b o1 w1)
      · rw [ss ne] at z2
        rw [ss ne'] at z4
        exact h.apart j k b o1 b' o2 c w1 z2 w3 z4
  · rcases low z with ⟨rfl, _, hl⟩ | ⟨ne, z⟩
    · rw [si hl]
      intro z2
      have z3 : V.ref a = V.ref t.1 := by injection z2 with z2; injection z2
      injection z3 with z3
      exact h.tne ht z3.symm
    · rw [ss ne]; exact d.tapart t ht j b o' z
/-- a name's object changes -/
theorem Rel.write (h : Rel K mg fr T G r s H) {i : Nat} {b : Bool} {o o' : Ob} {a : Addr} {ho' : HO} (hi : r[i]? = some (some (.own b o))) (ha : s[i]? = some (some (.ref a))) (q : HoOk G ho' o') :
    Rel K mg fr T G (r.set i (some (.own b o'))) s (upd H a ho') := by
  obtain ⟨v, ev, c, ec, g, ho, hh, hq⟩ := h.slot i _ hi
  rw [ha] at ev
  have : c = a := by
    have z : V.ref a = v := by injection ev with ev; injection ev
    rw [ec] at z; injection z with z; exact z.symm
  subst this
  have hil : i < r.length := (List.getElem?_eq_some_iff.mp hi).1
  have low : ∀ {j : Nat} {sl : Sl}, (r.set i (some (Sl.own b o')))[j]? = some (some sl) → (j = i ∧ sl = .own b o') ∨ (j ≠ i ∧ r[j]? = some (some sl)) := fun {j sl} z => by
    rcases set_some z with ⟨e, z, _⟩ | z
    · cases z; exact .inl ⟨e, rfl⟩
    · exact .inr z
  refine ⟨fun b' u e => ?_, h.g0, h.new, fun b' u e hx => ?_, fun b' hx => ?_, by rw [List.length_set]; exact h.len, fun j sl z => ?_, fun j b1 o1 a1 z z2 => ?_, fun j k b1 o1 b2 o2 a1 z1 z2 z3 z4 => ?_, fun t ht => ?_, fun t ht j b1 o1 z => ?_, h.tnd⟩
  · rw [upd_ne (ne_of_none e g)]; exact h.sub b' u e
  · have ne : b' ≠ c := fun z => by
      subst z
      rcases h.home i b o b' hi ha with ⟨_, z⟩ | ⟨_, z⟩
      · rw [z] at e; cases e
      · exact hx (List.mem_map_of_mem (f := (·.2)) z)
    rw [upd_ne ne]; exact h.keep b' u e hx
  · by_cases hb : b' = c
    · subst hb; rw [upd_same]; exact Option.some_ne_none _
    · rw [upd_ne hb]; exact h.exs b' hx
  · rcases low z with ⟨rfl, rfl⟩ | ⟨ne, z⟩
    · exact ⟨.ref c, ha, c, rfl, g, ho', upd_same, q⟩
    · obtain ⟨v', ev', hq'⟩ := h.slot j sl z
      refine ⟨v', ev', ?_⟩
      cases sl with
      | dat d => exact hq'
      | fn f => exact hq'
      | scr ns => exact hq'
      | own b1 o1 =>
        obtain ⟨c', ec', g', ho1, hh1, q1⟩ := hq'
        have nc : c' ≠ c := fun zc => ne (h.apart j i b1 o1 b o c z (by rw [ev', ec', zc]) hi ha)
        exact ⟨c', ec', g', ho1, by rw [upd_ne nc]; exact hh1, q1⟩
  · rcases low z with ⟨rfl, w⟩ | ⟨ne, w⟩
    · injection w with w1 w2; subst w1; exact h.home _ _ _ _ hi z2
    · exact h.home j b1 o1 a1 w z2
  · rcases low z1 with ⟨rfl, w1⟩ | ⟨ne, w1⟩
    · rcases low z3 with ⟨rfl, w3⟩ | ⟨ne', w3⟩
      · rfl
      · exact h.apart _ k _ _ b2 o2 a1 hi z2 w3 z4
    · rcases low z3 with ⟨rfl, w3⟩ | ⟨ne', w3⟩
      · exact h.apart j _ b1 o1 _ _ a1 w1 z2 hi z4
      · exact h.apart j k b1 o1 b2 o2 a1 w1 z2 w3 z4
  · obtain ⟨⟨g', hc, hh', q'⟩, f⟩ := h.tmp t ht
    have nc : t.1 ≠ c := fun z => h.tapart t ht i b o hi (by rw [ha, z])
    exact ⟨⟨g', hc, by rw [upd_ne nc]; exact hh', q'⟩, f⟩
  · rcases low z with ⟨rfl, z⟩ | ⟨ne, z⟩
    · exact h.tapart t ht _ _ _ hi
    · exact h.tapart t ht j b1 o1 z
/-- a name's object becomes part of the ground -/
theorem Rel.freezeS (h : Rel K mg fr T G r s H) {i : Nat} {ds : List PyData} {v : V} (hi : r[i]? = some (some (.own true (.lst ds)))) (hv : s[i]? = some (some v)) :
    ∃ G', Same G G' ∧ Rel K mg fr T G' (r.set i (some (.dat (.list ds)))) s H ∧ Dq G' v (.list ds) := by
  obtain ⟨v', ev, a, ea, g, ho, hh, vs, rfl, q⟩ := h.slot i _ hi
  rw [hv] at ev
  obtain rfl : v = v' := by injection ev with ev; injection ev
  subst ea
  have fa : fr.H a = none := by
    rcases h.home i _ _ a hi hv with ⟨_, z⟩ | ⟨z, _⟩
    · exact z
    · cases z
  have m : Same G (upd G a (.lst vs)) := fun b u e => by rw [upd_ne (ne_of_none e g)]; exact e
  have keepN : ∀ b, b ≠ a → G b = none → upd G a (.lst vs) b = none := fun b hb e => by rw [upd_ne hb]; exact e
  have dd : Dq (upd G a (.lst vs)) (.ref a) (.list ds) := .lst upd_same (DqAll.mono m q)
  have hil : i < r.length := (List.getElem?_eq_some_iff.mp hi).1
  have low : ∀ {j : Nat} {sl : Sl}, (r.set i (some (Sl.dat (.list ds))))[j]? = some (some sl) → (j = i ∧ sl = .dat (.list ds)) ∨ (j ≠ i ∧ r[j]? = some (some sl)) := fun {j sl} z => by
    rcases set_some z with ⟨e, z, _⟩ | z
    · cases z; exact .inl ⟨e, rfl⟩
    · exact .inr z
  have lowO : ∀ {j : Nat} {b : Bool} {o : Ob}, (r.set i (some (Sl.dat (.list ds))))[j]? = some (some (.own b o)) → j ≠ i ∧ r[j]? = some (some (.own b o)) := fun {j b o} z => by
    rcases low z with ⟨_, z⟩ | z
    · cases z
    · exact z
  refine ⟨_, m, ⟨fun b u e => ?_, h.g0.trans m, fun b z z2 => ?_, h.keep, h.exs, by rw [List.length_set]; exact h.len, fun j sl z => ?_, fun j b o c z z2 => h.home j b o c (lowO z).2 z2, fun j k b o b' o' c z1 z2 z3 z4 => h.apart j k b o b' o' c (lowO z1).2 z2 (lowO z3).2 z4, fun t ht => ?_, fun t ht j b o z => h.tapart t ht j b o (lowO z).2, h.tnd⟩, dd⟩
  · by_cases hb : b = a
    · subst hb; rw [upd_same] at e; cases e; exact hh
    · rw [upd_ne hb] at e; exact h.sub b u e
  · by_cases hb : b = a
    · subst hb; exact absurd fa z
    · rw [upd_ne hb] at z2; exact h.new b z z2
  · rcases low z with ⟨rfl, rfl⟩ | ⟨ne, z⟩
    · exact ⟨_, hv, dd⟩
    · obtain ⟨v', ev', hq'⟩ := h.slot j sl z
      refine ⟨v', ev', ?_⟩
      cases sl with
      | dat d => exact Dq.mono m hq'
      | fn f => exact hq'
      | scr ns => obtain ⟨a, ev', h'⟩ := hq'; exact ⟨a, ev', SqL.mono m h'⟩
      | own b1 o1 =>
        obtain ⟨c', ec', g', ho1, hh1, q1⟩ := hq'
        have nc : c' ≠ a := fun zc => ne (h.apart j i b1 o1 _ _ a z (by rw [ev', ec', zc]) hi hv)
        exact ⟨c', ec', keepN c' nc g', ho1, hh1, HoOk.mono m q1⟩
  · obtain ⟨⟨g', hc, hh', q'⟩, f⟩ := h.tmp t ht
    have nc : t.1 ≠ a := fun z => h.tapart t ht i _ _ hi (by rw [hv, z])
    exact ⟨⟨keepN _ nc g', hc, hh', HoOk.mono m q'⟩, f⟩
end
end Dn
namespace Dn
open PySem PySem.Spec PyProof.Rows L2
/-! ### readings of expressions -/
abbrev DX := DEnv → R (DV × DEnv)
abbrev DT := DEnv → R (Bool × DEnv)
/-- what a value is worth, looked at where it stands -/
def pkAt : Option (Option Sl) → Option PyData
  | some (some (.own _ o)) => o.data
  | some (some (.dat d)) => some d
  | _ => none
def pk : DV → DEnv → Option PyData
  | .dat d, _ => some d
  | .own o, _ => o.data
  | .loc i, r => pkAt r[i]?
  | .fn _, _ => none
  | .scr _, _ => none
  | .pr _ _, _ => none
/-- given away: it is data from then on -/
def frzAt (r : DEnv) (i : Nat) : Option (Option Sl) → Option (PyData × DEnv)
  | some (some (.own true o)) => (match o.data with
    | some d => some (d, r.set i (some (.dat d)))
    | none => none)
  | some (some (.dat d)) => some (d, r)
  | _ => none
def frz : DV → DEnv → Option (PyData × DEnv)
  | .dat d, r => some (d, r)
  | .own o, r => (match o.data with
    | some d => some (d, r)
    | none => none)
  | .loc i, r => frzAt r i r[i]?
  | .fn _, _ => none
  | .scr _, _ => none
  | .pr _ _, _ => none
def opd (f : DX) : DX := fun r => (f r).bind fun p => match p.1 with
  | .own o => (match o.data with
    | some d => .ok (.dat d, p.2)
    | none => .stuck)
  | .pr _ _ => .stuck
  | v => .ok (v, p.2)
def frzE (f : DX) : DEnv → R (PyData × DEnv) := fun r => (f r).bind fun p => match frz p.1 p.2 with
  | some q => .ok q
  | none => .stuck
section
variable (X : Cx) (W : WX) (fr : Fm) (T : List (Addr × Ob))
abbrev RelX (G : Hp) (r : DEnv) (s : L2.St) (H : Hp) : Prop := Rel X.K X.mg fr T G r s H
def Post (G : Hp) (s : L2.St) (dv : DV) (r : DEnv) (v : V) (H : Hp) : Prop := ∃ G', Same G G' ∧ match dv with
  | .dat d => Rel X.K X.mg fr T G' r s H ∧ Dq G' v d
  | .own o => ∃ a, v = .ref a ∧ Rel X.K X.mg fr ((a, o) :: T) G' r s H
  | .loc i => Rel X.K X.mg fr T G' r s H ∧ s[i]? = some (some v)
  | .fn f => Rel X.K X.mg fr T G' r s H ∧ ∃ a, v = .ref a ∧ X.mg f = some (.ref a)
  | .scr ns => Rel X.K X.mg fr T G' r s H ∧ ∃ a, v = .ref a ∧ SqL X.K G' a (ns.map V.int)
  | .pr d o => ∃ t a vd, v = .ref t ∧ H t = some (.tup [vd, .ref a]) ∧ Dq G' vd d ∧ Rel X.K X.mg fr ((a, o) :: T) G' r s H
/-- the fields of an exception in order -/
def FldOk (G : Hp) (fs : List (Str × V)) (ds : List PyData) : Prop := DqAll G (fs.map (·.2)) ds
def XPost (G : Hp) (s : L2.St) (c : Str) (fs : List PyData) (r : DEnv) (cls : Value) (d : Option Addr) (H : Hp) : Prop :=
  ∃ G' C da xs, Same G G' ∧ Rel X.K X.mg fr T G' r s H ∧ cls = .ref C ∧ X.mg c = some (.ref C) ∧ d = some da ∧ H da = some (.xd xs) ∧ FldOk G' xs fs
def out (G : Hp) (s : L2.St) (x : R (DV × DEnv)) (Q : VK) : Prop := match x with
  | .ok p => ∀ v H, Post X fr T G s p.1 p.2 v H → Q v H
  | .exc c fs r => ∀ cls d H, XPost X fr T G s c fs r cls d H → W cls d s H
  | .stuck => False
def outT (G : Hp) (s : L2.St) (x : R (Bool × DEnv)) (Q : Bool → Hp → Prop) : Prop := match x with
  | .ok p => ∀ H, (∃ G', Same G G' ∧ Rel X.K X.mg fr T G' p.2 s H) → Q p.1 H
  | .exc c fs r => ∀ cls d H, XPost X fr T G s c fs r cls d H → W cls d s H
  | .stuck => False
def tD (f : DX) : TE := fun s H Q => ∃ G r, Rel X.K X.mg fr T G r s H ∧ out X W fr T G s (f r) Q
def tDT (f : DT) : TT := fun s H Q => ∃ G r, Rel X.K X.mg fr T G r s H ∧ outT X W fr T G s (f r) Q
end
/-- the expression e reads as f -/
def DE (X : Cx) (W : WX) (e : Expr) (f : DX) : Prop := ∀ fr T, PE X e (tD X W fr T f)
def DTe (X : Cx) (W : WX) (e : Expr) (f : DT) : Prop := ∀ fr T, PT X e (tDT X W fr T f)
theorem pe_imp {X : Cx} {e : Expr} {t t' : TE} (h : PE X e t) (q : ∀ s H Q, t' s H Q → t s H Q) : PE X e t' := ⟨fun pins s σ H Q I w => h.run pins s σ H Q I (q σ H Q w)⟩
theorem pt_imp {X : Cx} {e : Expr} {t t' : TT} (h : PT X e t) (q : ∀ s H Q, t' s H Q → t s H Q) : PT X e t' := ⟨fun pins s σ H Q I w => h.run pins s σ H Q I (q σ H Q w)⟩
section
variable {X : Cx} {W : WX} {fr : Fm} {T : List (Addr × Ob)} {G G' : Hp} {r : DEnv} {s : L2.St} {H : Hp}
theorem Post.mono {dv : DV} {v : V} (m : Same G G') (h : Post X fr T G' s dv r v H) : Post X fr T G s dv r v H := let ⟨G2, m2, q⟩ := h; ⟨G2, m.trans m2, q⟩
theorem XPost.mono {c : Str} {fs : List PyData} {cls : Value} {d : Option Addr} (m : Same G G') (h : XPost X fr T G' s c fs r cls d H) : XPost X fr T G s c fs r cls d H := by
  obtain ⟨G2, C, da, xs, m2, q⟩ := h
  exact ⟨G2, C, da, xs, m.trans m2, q⟩
theorem out.mono {x : R (DV × DEnv)} {Q : VK} (m : Same G G') (h : out X W fr T G s x Q) : out X W fr T G' s x Q := by
  cases x with
  | ok p => exact fun v H q => h v H (q.mono m)
  | exc c fs r => exact fun cls d H q => h cls d H (q.mono m)
  | stuck => exact h
theorem outT.mono {x : R (Bool × DEnv)} {Q : Bool → Hp → Prop} (m : Same G G') (h : outT X W fr T G s x Q) : outT X W fr T G' s x Q := by
  cases x with
  | ok p => exact fun H ⟨G2, m2, q⟩ => h H ⟨G2, m.trans m2, q⟩
  | exc c fs r => exact fun cls d H q => h cls d H (q.mono m)
  | stuck => exact h
/-- an operand: data, or a name's object as it stands -/
def OpV (X : Cx) (G : Hp) (s : L2.St) (v : V) : DV → Prop
  | .dat d => Dq G v d
  | .loc i => s[i]? = some (some v)
  | .fn f => ∃ a, v = .ref a ∧ X.mg f = some (.ref a)
  | .scr ns => ∃ a, v = .ref a ∧ SqL X.K G a (ns.map V.int)
  | .own _ => False
  | .pr _ _ => False
theorem OpV.mono {v : V} {dv : DV} (m : Same G G') (h : OpV X G s v dv) : OpV X G' s v dv := by
  cases dv with
  | dat d => exact Dq.mono m h
  | loc i => exact h
  | fn f => exact h
  | scr ns => obtain ⟨a, e, h⟩ := h; exact ⟨a, e, SqL.mono m h⟩
  | own o => exact h
  | pr d o => exact h
def Opr (G H : Hp) (v : V) (d : PyData) : Prop := Dq G v d ∨ ∃ a vs ds, v = .ref a ∧ d = .list ds ∧ H a = some (.lst vs) ∧ DqAll G vs ds
theorem opr_of {v : V} {dv : DV} {d : PyData} (rel : Rel X.K X.mg fr T G r s H) (ov : OpV X G s v dv) (e : pk dv r = some d) : Opr G H v d := by
  cases dv with
  | dat d' => cases e; exact .inl ov
  | own o => exact ov.elim
  | pr d o => exact ov.elim
  | fn f => cases e
  | scr ns => cases e
  | loc i =>
    have ov' : s[i]? = some (some v) := ov
    have e : pkAt r[i]? = some d := e
    cases hi : r[i]? with
    | none => rw [hi] at e; cases e
    | some z =>
      cases z with
      | none => rw [hi] at e; cases e
      | some sl =>
        rw [hi] at e
        obtain ⟨v', ev, q⟩ := rel.slot i _ hi
        rw [ov'] at ev
        obtain rfl : v = v' := by injection ev with ev; injection ev
        cases sl with
        | fn f => cases e
        | scr ns => cases e
        | dat d' =>
          cases e
          exact .inl q
        | own b o =>
          obtain ⟨a, ea, g, ho, hh, q⟩ := q
          cases o with
          | dic kvs => cases e
          | lst ds =>
            cases e
            obtain ⟨vs, rfl, q⟩ := q
            exact .inr ⟨a, vs, ds, ea, rfl, hh, q⟩
theorem opd_bind {fa : DX} {g : DV → DEnv → R (DV × DEnv)} {Q : VK} {K1 : VK} (rel : Rel X.K X.mg fr T G r s H) (o : out X W fr T G s ((opd fa r).bind fun p => g p.1 p.2) Q)
    (hk : ∀ G' r' v H1 dv, Same G G' → Rel X.K X.mg fr T G' r' s H1 → OpV X G' s v dv → out X W fr T G' s (g dv r') Q → K1 v H1) : tD X W fr T fa s H K1 := by
  refine ⟨G, r, rel, ?_⟩
  unfold opd at o
  cases hf : fa r with
  | stuck => rw [hf] at o; exact o
  | exc c fs r' => rw [hf] at o; exact o
  | ok p =>
    rw [hf] at o
    obtain ⟨dv, r1⟩ := p
    intro v H1 ⟨G1, m, q⟩
    cases dv with
    | dat d => exact hk G1 r1 v H1 (.dat d) m q.1 q.2 (out.mono m o)
    | loc i => exact hk G1 r1 v H1 (.loc i) m q.1 q.2 (out.mono m o)
    | fn f => exact hk G1 r1 v H1 (.fn f) m q.1 q.2 (out.mono m o)
    | scr ns => exact hk G1 r1 v H1 (.scr ns) m q.1 q.2 (out.mono m o)
    | pr d ob => exact o.elim
    | own ob =>
      cases ob with
      | dic kvs => exact o.elim
      | lst ds =>
        obtain ⟨a, rfl, q⟩ := q
        obtain ⟨vs, hh, m2, q2, q3⟩ := q.freezeT
        exact hk _ r1 (.ref a) H1 (.dat (.list ds)) (m.trans m2) q2 q3 (out.mono (m.trans m2) o)
theorem frz_ok {v : V} {dv : DV} {d : PyData} {r' : DEnv} (h : Post X fr T G s dv r v H) (e : frz dv r = some (d, r')) : ∃ G', Same G G' ∧ Rel X.K X.mg fr T G' r' s H ∧ Dq G' v d := by
  obtain ⟨G1, m, q⟩ := h
  cases dv with
  | dat d' => cases e; exact ⟨G1, m, q⟩
  | fn f => cases e
  | scr ns => cases e
  | pr d o => cases e
  | own ob =>
    cases ob with
    | dic kvs => cases e
    | lst ds =>
      cases e
      obtain ⟨a, rfl, q⟩ := q
      obtain ⟨vs, hh, m2, q2, q3⟩ := q.freezeT
      exact ⟨_, m.trans m2, q2, q3⟩
  | loc i =>
    obtain ⟨q, hv⟩ := q
    have e : frzAt r i r[i]? = some (d, r') := e
    cases hi : r[i]? with
    | none => rw [hi] at e; cases e
    | some z =>
      cases z with
      | none => rw [hi] at e; cases e
      | some sl =>
        rw [hi] at e
        cases sl with
        | fn f => cases e
        | scr ns => cases e
        | dat d' =>
          cases e
          obtain ⟨v', ev, q2⟩ := q.slot i _ hi
          rw [hv] at ev
          obtain rfl : v = v' := by injection ev with ev; injection ev
          exact ⟨G1, m, q, q2⟩
        | own b o =>
          cases b with
          | false => cases e
          | true =>
            cases o with
            | dic kvs => cases e
            | lst ds =>
              cases e
              obtain ⟨G2, m2, q2, q3⟩ := q.freezeS hi hv
              exact ⟨G2, m.trans m2, q2, q3⟩
theorem frz_bind {fa : DX} {g : PyData → DEnv → R (DV × DEnv)} {Q : VK} {K1 : VK} (rel : Rel X.K X.mg fr T G r s H) (o : out X W fr T G s ((frzE fa r).bind fun p => g p.1 p.2) Q)
    (hk : ∀ G' r' v H1 d, Same G G' → Rel X.K X.mg fr T G' r' s H1 → Dq G' v d → out X W fr T G' s (g d r') Q → K1 v H1) : tD X W fr T fa s H K1 := by
  refine ⟨G, r, rel, ?_⟩
  unfold frzE at o
  cases hf : fa r with
  | stuck => rw [hf] at o; exact o
  | exc c fs r' => rw [hf] at o; exact o
  | ok p =>
    rw [hf] at o
    obtain ⟨dv, r1⟩ := p
    intro v H1 pq
    have o' : out X W fr T G s ((match frz dv r1 with | some q => R.ok q | none => R.stuck).bind fun p => g p.1 p.2) Q := o
    cases hz : frz dv r1 with
    | none => rw [hz] at o'; exact o'.elim
    | some q =>
      obtain ⟨d, r2⟩ := q
      rw [hz] at o'
      obtain ⟨G2, m, q2, q3⟩ := frz_ok pq hz
      exact hk G2 r2 v H1 d m q2 q3 (out.mono m o')
/-! ### names and constants -/
def dVar (i : Nat) : DX := fun r => match r[i]? with
  | some (some (.dat d)) => .ok (.dat d, r)
  | some (some (.own _ _)) => .ok (.loc i, r)
  | some (some (.fn f)) => .ok (.fn f, r)
  | some (some (.scr ns)) => .ok (.scr ns, r)
  | _ => .stuck
def dC (d : PyData) : DX := fun r => .ok (.dat d, r)
theorem de_var {i : Nat} {x : Str} {pos : Pos} (hN : X.N[i]? = some x) (hv : Vis X.env.scope x) (hd : (x == ("__debug__" : Str)) = false) (hcd : (x == ("__classdict__" : Str)) = false) : DE X W (.Name x pos) (dVar i) := fun fr T => by
  refine pe_imp (pe_var hN hv hd hcd) fun s H Q ⟨G, r, rel, o⟩ => ?_
  unfold dVar at o
  split at o
  · rename_i d hi
    obtain ⟨v, ev, q⟩ := rel.slot i _ hi
    exact ⟨v, ev, o v H ⟨G, .refl _, rel, q⟩⟩
  · rename_i b ob hi
    obtain ⟨v, ev, q⟩ := rel.slot i _ hi
    exact ⟨v, ev, o v H ⟨G, .refl _, rel, ev⟩⟩
  · rename_i f hi
    obtain ⟨v, ev, q⟩ := rel.slot i _ hi
    exact ⟨v, ev, o v H ⟨G, .refl _, rel, q⟩⟩
  · rename_i ns hi
    obtain ⟨v, ev, q⟩ := rel.slot i _ hi
    exact ⟨v, ev, o v H ⟨G, .refl _, rel, q⟩⟩
  · exact o.elim
theorem de_const {e : Expr} {v : V} {d : PyData} (h : PE X e (tC v)) (q : ∀ G, Dq G v d) : DE X W e (dC d) := fun fr T =>
  pe_imp h fun s H Q ⟨G, r, rel, o⟩ => o v H ⟨G, .refl _, rel, q G⟩
theorem de_int {i : Int} {j : Nat} {pos : Pos} : DE X W (.Constant (.int i) j pos) (dC (.int i)) := de_const pe_int fun _ => .int i
theorem de_bl {b : Bool} {j : Nat} {pos : Pos} : DE X W (.Constant (.bool b) j pos) (dC (.bool b)) := de_const pe_bl fun _ => .bl b
theorem de_non {j : Nat} {pos : Pos} : DE X W (.Constant .none j pos) (dC .none) := de_const pe_non fun _ => .non
theorem de_str {x : Str} {j : Nat} {pos : Pos} : DE X W (.Constant (.str x) j pos) (dC (.str x)) := de_const pe_str fun _ => .str x
/-! ### operators by data -/
abbrev Op2 := PyData → PyData → Option DV
/-- what an operation leaves -/
def RPost (G H : Hp) (dv : DV) (v : V) (H' : Hp) : Prop := match dv with
  | .dat d => ∃ G', Ext G H G' H' ∧ Dq G' v d
  | .own o => ∃ a ho, v = .ref a ∧ H a = none ∧ H' = upd H a ho ∧ HoOk G ho o
  | _ => False
theorem RPost.same {v : V} {d : PyData} (h : Same G H) (q : Dq G v d) : RPost G H (.dat d) v H := ⟨G, .refl h, q⟩
theorem RPost.post {dv : DV} {v : V} {H' : Hp} (rel : Rel X.K X.mg fr T G r s H) (h : RPost G H dv v H') : Post X fr T G s dv r v H' := by
  cases dv with
  | dat d => obtain ⟨G', e, q⟩ := h; exact ⟨G', e.mono, rel.ext e, q⟩
  | own o =>
    obtain ⟨a, ho, ev, hn, rfl, q⟩ := h
    exact ⟨G, .refl _, a, ev, rel.push hn q⟩
  | loc i => exact h.elim
  | fn f => exact h.elim
  | scr ns => exact h.elim
  | pr d o => exact h.elim
def rD (op : Op2) : R2 := fun x y H Q => ∃ G d e dv, Same G H ∧ Opr G H x d ∧ Opr G H y e ∧ op d e = some dv ∧ ∀ v H', RPost G H dv v H' → Q v H'
def binK (op : Op2) (a b : DV) (r : DEnv) : R (DV × DEnv) := match pk a r, pk b r with
  | some x, some y => (match op x y with
    | some dv => .ok (dv, r)
    | none => .stuck)
  | _, _ => .stuck
def dBin (op : Op2) (fa fb : DX) : DX := fun r => (opd fa r).bind fun p => (opd fb p.2).bind fun q => binK op p.1 q.1 q.2
theorem bin_run {op : Op2} {fa fb : DX} {Q : VK} (h : tD X W fr T (dBin op fa fb) s H Q) : tOp (rD op) (tD X W fr T fa) (tD X W fr T fb) s H Q := by
  obtain ⟨G, r, rel, o⟩ := h
  refine opd_bind (g := fun a r1 => (opd fb r1).bind fun q => binK op a q.1 q.2) rel o fun G1 r1 v H1 dv m rel1 ov o1 => ?_
  refine opd_bind (g := fun b r2 => binK op dv b r2) rel1 o1 fun G2 r2 w H2 dw m2 rel2 ow o2 => ?_
  have o2 : out X W fr T G2 s (binK op dv dw r2) Q := o2
  unfold binK at o2
  split at o2
  · rename_i x y hx hy
    split at o2
    · rename_i dv' hop
      exact ⟨G2, x, y, dv', rel2.sub, opr_of rel2 (ov.mono m2) hx, opr_of rel2 ow hy, hop, fun v' H' q => o2 v' H' (q.post rel2)⟩
    · exact o2.elim
  · exact o2.elim
theorem de_bin {op : Operator} {p : Op2} {a b : Expr} {fa fb : DX} {pos : Pos} (ho : OpR X (binaryOp op) (rD p)) (ha : DE X W a fa) (hb : DE X W b fb) : DE X W (.BinOp a op b pos) (dBin p fa fb) := fun fr T =>
  pe_imp (pe_op ho (ha fr T) (hb fr T)) fun _ _ _ h => bin_run h
theorem de_cmp {op : CmpOp} {p : Op2} {a b : Expr} {fa fb : DX} {pos : Pos} (ho : OpR X (compareOp op) (rD p)) (ha : DE X W a fa) (hb : DE X W b fb) (hm : behindInMarks op b = false) : DE X W (.Compare a [op] [b] pos) (dBin p fa fb) := fun fr T =>
  pe_imp (pe_cmpR ho (ha fr T) (hb fr T) hm) fun _ _ _ h => bin_run h
/-! ### tests -/
/-- a value that is True or False -/
def dB (f : DX) : DT := fun r => (opd f r).bind fun p => match p.1 with
  | .dat (.bool b) => .ok (b, p.2)
  | _ => .stuck
theorem dB_run {f : DX} {Q : Bool → Hp → Prop} (h : tDT X W fr T (dB f) s H Q) : tD X W fr T f s H fun x H' => ∃ k, x = .bl k ∧ Q k H' := by
  obtain ⟨G, r, rel, o⟩ := h
  refine ⟨G, r, rel, ?_⟩
  unfold dB opd at o
  cases hf : f r with
  | stuck => rw [hf] at o; exact o
  | exc c fs r' => rw [hf] at o; exact o
  | ok p =>
    rw [hf] at o
    obtain ⟨dv, r1⟩ := p
    intro v H1 ⟨G1, m, q⟩
    cases dv with
    | own ob =>
      cases ob with
      | dic kvs => exact o.elim
      | lst ds => exact o.elim
    | loc i => exact o.elim
    | fn f => exact o.elim
    | scr ns => exact o.elim
    | pr d ob => exact o.elim
    | dat d =>
      cases d with
      | bool b =>
        obtain ⟨q1, q2⟩ := q
        cases q2
        exact ⟨b, rfl, o H1 ⟨G1, m, q1⟩⟩
      | none => exact o.elim
      | int i => exact o.elim
      | str i => exact o.elim
      | list i => exact o.elim
      | tuple i => exact o.elim
      | dict i => exact o.elim
theorem dt_cmp {op : CmpOp} {p : Op2} {a b : Expr} {fa fb : DX} {pos : Pos} (ho : OpR X (compareOp op) (rD p)) (ha : DE X W a fa) (hb : DE X W b fb) (hm : behindInMarks op b = false) : DTe X W (.Compare a [op] [b] pos) (dB (dBin p fa fb)) := fun fr T =>
  pt_imp (pt_cmpR ho (ha fr T) (hb fr T) hm) fun _ _ _ h => bin_run (dB_run h)
theorem dt_val {e : Expr} {f : DX} (h : DE X W e f) (he : ∀ whole, isTrue e X.env whole = (do let v ← whole; standAt e.pos; holding [v] (truthy v))) : DTe X W e (dB f) := fun fr T =>
  pt_imp (pt_val (h fr T) he) fun _ _ _ h => dB_run h
def dAnd (f g : DT) : DT := fun r => (f r).bind fun p => match p.1 with
  | true => g p.2
  | false => .ok (false, p.2)
def dOr (f g : DT) : DT := fun r => (f r).bind fun p => match p.1 with
  | true => .ok (true, p.2)
  | false => g p.2
def dNot (f : DT) : DT := fun r => (f r).bind fun p => .ok (!p.1, p.2)
theorem outT_bind {f : DT} {g : Bool → DEnv → R (Bool × DEnv)} {Q K1 : Bool → Hp → Prop} (rel : Rel X.K X.mg fr T G r s H) (o : outT X W fr T G s ((f r).bind fun p => g p.1 p.2) Q)
    (hk : ∀ G' r' b H1, Same G G' → Rel X.K X.mg fr T G' r' s H1 → outT X W fr T G' s (g b r') Q → K1 b H1) : tDT X W fr T f s H K1 := by
  refine ⟨G, r, rel, ?_⟩
  cases hf : f r with
  | stuck => rw [hf] at o; exact o
  | exc c fs r' => rw [hf] at o; exact o
  | ok p =>
    rw [hf] at o
    obtain ⟨b, r1⟩ := p
    intro H1 ⟨G1, m, q⟩
    exact hk G1 r1 b H1 m q (outT.mono m o)
structure DW (X : Cx) (W : WX) (e : Expr) (f : DT) : Prop where
  w : ∀ fr T, PW X e (tDT X W fr T f)
theorem DW.t {e : Expr} {f : DT} (h : DW X W e f) : DTe X W e f := fun fr T => (h.w fr T).pt
theorem pw_imp {e : Expr} {t t' : TT} (h : PW X e t) (q : ∀ s H Q, t' s H Q → t s H Q) : PW X e t' := ⟨fun wh pins s σ H Q I w => h.run wh pins s σ H Q I (q σ H Q w)⟩
theorem dw_and1 {a : Expr} {f : DT} {pos : Pos} (h : DTe X W a f) : DW X W (.BoolOp .And [a] pos) f := ⟨fun fr T => pw_and1 (h fr T)⟩
theorem dw_or1 {a : Expr} {f : DT} {pos : Pos} (h : DTe X W a f) : DW X W (.BoolOp .Or [a] pos) f := ⟨fun fr T => pw_or1 (h fr T)⟩
theorem dw_and {a b : Expr} {rest : List Expr} {f g : DT} {pos : Pos} (ha : DTe X W a f) (hb : DW X W (.BoolOp .And (b :: rest) pos) g) : DW X W (.BoolOp .And (a :: b :: rest) pos) (dAnd f g) := ⟨fun fr T =>
  pw_imp (pw_and (ha fr T) (hb.w fr T)) fun s H Q ⟨G, r, rel, o⟩ => outT_bind (g := fun b r1 => match b with | true => g r1 | false => .ok (false, r1)) rel o fun G1 r1 b H1 m rel1 o1 => by
    cases b with
    | true => exact iteT ⟨G1, r1, rel1, o1⟩
    | false => exact iteF (o1 H1 ⟨G1, .refl _, rel1⟩)⟩
theorem dw_or {a b : Expr} {rest : List Expr} {f g : DT} {pos : Pos} (ha : DTe X W a f) (hb : DW X W (.BoolOp .Or (b :: rest) pos) g) : DW X W (.BoolOp .Or (a :: b :: rest) pos) (dOr f g) := ⟨fun fr T =>
  pw_imp (pw_or (ha fr T) (hb.w fr T)) fun s H Q ⟨G, r, rel, o⟩ => outT_bind (g := fun b r1 => match b with | true => .ok (true, r1) | false => g r1) rel o fun G1 r1 b H1 m rel1 o1 => by
    cases b with
    | true => exact iteT (o1 H1 ⟨G1, .refl _, rel1⟩)
    | false => exact iteF ⟨G1, r1, rel1, o1⟩⟩
theorem dt_not {a : Expr} {f : DT} {pos : Pos} (ha : DTe X W a f) : DTe X W (.UnaryOp .Not a pos) (dNot f) := fun fr T =>
  pt_imp (pt_not (ha fr T)) fun s H Q ⟨G, r, rel, o⟩ => outT_bind (g := fun b r1 => .ok (!b, r1)) rel o fun G1 r1 b H1 m rel1 o1 => o1 H1 ⟨G1, .refl _, rel1⟩
/-! ### and, or, not as values; a if t else b -/
/-- a test's outcome, then -/
def dIf (c : DT) (fa fb : DX) : DX := fun r => (c r).bind fun p => match p.1 with
  | true => fa p.2
  | false => fb p.2
theorem outT_bindX {f : DT} {g : Bool → DEnv → R (DV × DEnv)} {Q : VK} {K1 : Bool → Hp → Prop} (rel : Rel X.K X.mg fr T G r s H) (o : out X W fr T G s ((f r).bind fun p => g p.1 p.2) Q)
    (hk : ∀ G' r' b H1, Same G G' → Rel X.K X.mg fr T G' r' s H1 → out X W fr T G' s (g b r') Q → K1 b H1) : tDT X W fr T f s H K1 := by
  refine ⟨G, r, rel, ?_⟩
  cases hf : f r with
  | stuck => rw [hf] at o; exact o
  | exc c fs r' => rw [hf] at o; exact o
  | ok p =>
    rw [hf] at o
    obtain ⟨b, r1⟩ := p
    intro H1 ⟨G1, m, q⟩
    exact hk G1 r1 b H1 m q (out.mono m o)
theorem de_if {c a b : Expr} {fc : DT} {fa fb : DX} {pos : Pos} (hc : DTe X W c fc) (ha : DE X W a fa) (hb : DE X W b fb) : DE X W (.IfExp c a b pos) (dIf fc fa fb) := fun fr T =>
  pe_imp (pe_ifExp (hc fr T) (ha fr T) (hb fr T)) fun s H Q ⟨G, r, rel, o⟩ => outT_bindX (g := fun b r1 => match b with | true => fa r1 | false => fb r1) rel o fun G1 r1 b H1 m rel1 o1 => by
    cases b with
    | true => exact iteT ⟨G1, r1, rel1, o1⟩
    | false => exact iteF ⟨G1, r1, rel1, o1⟩
end
end Dn
namespace Dn
open PySem PySem.Spec PyProof.Rows L2
section
variable {G H : Hp} {v : V}
theorem opr_int {i : Int} (h : Opr G H v (.int i)) : v = .int i := by
  rcases h with h | ⟨_, _, _, _, e, _⟩
  · cases h; rfl
  · cases e
theorem opr_str {x : Str} (h : Opr G H v (.str x)) : v = .str x := by
  rcases h with h | ⟨_, _, _, _, e, _⟩
  · cases h; rfl
  · cases e
theorem opr_bl {b : Bool} (h : Opr G H v (.bool b)) : v = .bl b := by
  rcases h with h | ⟨_, _, _, _, e, _⟩
  · cases h; rfl
  · cases e
theorem opr_non (h : Opr G H v .none) : v = .non := by
  rcases h with h | ⟨_, _, _, _, e, _⟩
  · cases h; rfl
  · cases e
theorem opr_lst {ds : List PyData} (h : Opr G H v (.list ds)) (m : Same G H) : ∃ a vs, v = .ref a ∧ H a = some (.lst vs) ∧ DqAll G vs ds := by
  rcases h with h | ⟨a, vs, ds', e1, e2, e3, e4⟩
  · cases h with
    | lst h1 h2 => exact ⟨_, _, rfl, m _ _ h1, h2⟩
  · cases e2; exact ⟨a, vs, e1, e3, e4⟩
theorem opr_tup {ds : List PyData} (h : Opr G H v (.tuple ds)) (m : Same G H) : ∃ a vs, v = .ref a ∧ H a = some (.tup vs) ∧ DqAll G vs ds ∧ Dq G v (.tuple ds) := by
  rcases h with h | ⟨a, vs, ds', e1, e2, e3, e4⟩
  · cases h with
    | tup h1 h2 => exact ⟨_, _, rfl, m _ _ h1, h2, .tup h1 h2⟩
  · cases e2
theorem opr_dict {ds : List (PyData × PyData)} (h : Opr G H v (.dict ds)) : False := by
  rcases h with h | ⟨a, vs, ds', e1, e2, e3, e4⟩
  · cases h
  · cases e2
theorem opr_dp {d : PyData} (h : Opr G H v d) (m : Same G H) : Dq H v d := by
  rcases h with h | ⟨a, vs, ds', rfl, rfl, e3, e4⟩
  · exact Dq.mono m h
  · exact .lst e3 (DqAll.mono m e4)
end
/-- an equality that a rule of the layer shows, to a scalar -/
def sc (d : PyData) : Option DV := some (.dat d)
section
variable {X : Cx}
theorem rp_int {G H : Hp} {i : Int} (m : Same G H) : RPost G H (.dat (.int i)) (.int i) H := RPost.same m (.int i)
theorem rp_bl {G H : Hp} {b : Bool} (m : Same G H) : RPost G H (.dat (.bool b)) (.bl b) H := RPost.same m (.bl b)
theorem rp_str {G H : Hp} {b : Str} (m : Same G H) : RPost G H (.dat (.str b)) (.str b) H := RPost.same m (.str b)
theorem rp_lst {G H : Hp} {p : Addr} {vs : List V} {ds : List PyData} (hp : H p = none) (q : DqAll G vs ds) : RPost G H (.own (.lst ds)) (.ref p) (upd H p (.lst vs)) := ⟨p, .lst vs, rfl, hp, rfl, vs, rfl, q⟩
theorem rp_tup {G H : Hp} {p : Addr} {vs : List V} {ds : List PyData} (m : Same G H) (hp : H p = none) (q : DqAll G vs ds) : RPost G H (.dat (.tuple ds)) (.ref p) (upd H p (.tup vs)) :=
  ⟨upd G p (.tup vs), Ext.lay m hp, .tup upd_same (DqAll.mono (Ext.lay (o := .tup vs) m hp).mono q)⟩
/-! ### + -/
def addD : Op2
  | .int i, .int j => some (.dat (.int (i + j)))
  | .str x, .str y => if x.length + y.length ≤ sizeLine then some (.dat (.str (x ++ y))) else none
  | .list xs, .list ys => if xs.length + ys.length ≤ sizeLine then some (.own (.lst (xs ++ ys))) else none
  | .tuple xs, .tuple ys => if xs.length + ys.length ≤ sizeLine then some (.dat (.tuple (xs ++ ys))) else none
  | _, _ => none
theorem op_addD : OpR X (binaryOp .Add) (rD addD) := by
  intro pins s σ H x y v u Q I rx ry h
  obtain ⟨G, d, e, dv, m, hd, he, hop, q⟩ := h
  cases d <;> cases e <;> try (cases hop; done)
  · rename_i i j
    cases hop
    obtain rfl := opr_int hd
    obtain rfl := opr_int he
    exact op_add pins s σ H _ _ v u Q I rx ry ⟨i, j, rfl, rfl, q _ _ (rp_int m)⟩
  · rename_i i j
    obtain rfl := opr_str hd
    obtain rfl := opr_str he
    have hop : (if i.length + j.length ≤ sizeLine then some (DV.dat (.str (i ++ j))) else none) = some dv := hop
    split at hop
    · rename_i hz
      cases hop
      exact op_add_str pins s σ H _ _ v u Q I rx ry ⟨i, j, rfl, rfl, hz, q _ _ (rp_str m)⟩
    · cases hop
  · rename_i xs ys
    obtain ⟨a, vs, rfl, ha, da⟩ := opr_lst hd m
    obtain ⟨b, ws, rfl, hb, db⟩ := opr_lst he m
    have hop : (if xs.length + ys.length ≤ sizeLine then some (DV.own (.lst (xs ++ ys))) else none) = some dv := hop
    split at hop
    · rename_i hz
      cases hop
      exact op_cat pins s σ H _ _ v u Q I rx ry ⟨a, b, vs, ws, rfl, rfl, ha, hb, by rw [DqAll.length da, DqAll.length db]; exact hz, fun p hp => q _ _ (rp_lst hp (DqAll.append da db))⟩
    · cases hop
  · rename_i xs ys
    obtain ⟨a, vs, rfl, ha, da, dpa⟩ := opr_tup hd m
    obtain ⟨b, ws, rfl, hb, db, dpb⟩ := opr_tup he m
    have hop : (if xs.length + ys.length ≤ sizeLine then some (DV.dat (.tuple (xs ++ ys))) else none) = some dv := hop
    split at hop
    · rename_i hz
      cases hop
      refine op_catA pins s σ H _ _ v u Q I rx ry ⟨a, b, vs, ws, rfl, rfl, SqT.of ha, SqT.of hb, by rw [DqAll.length da, DqAll.length db]; exact hz, fun e => ?_, fun _ e => ?_, fun _ _ p hp => q _ _ (rp_tup m hp (DqAll.append da db))⟩
      · subst e
        cases da
        exact q _ _ (RPost.same m dpb)
      · subst e
        cases db
        rw [List.append_nil] at q
        exact q _ _ (RPost.same m dpa)
    · cases hop
/-! ### ints -/
theorem op_intI {op : Operator} {C : Int → Int → Prop} [∀ i j, Decidable (C i j)] {g : Int → Int → Int} {p : Op2} (h : OpR X (binaryOp op) (rI C fun i j => .int (g i j)))
    (hp : ∀ d e dv, p d e = some dv → ∃ i j, d = .int i ∧ e = .int j ∧ C i j ∧ dv = .dat (.int (g i j))) : OpR X (binaryOp op) (rD p) := by
  intro pins s σ H x y v u Q I rx ry hh
  obtain ⟨G, d, e, dv, m, hd, he, hop, q⟩ := hh
  obtain ⟨i, j, rfl, rfl, c, rfl⟩ := hp d e dv hop
  obtain rfl := opr_int hd
  obtain rfl := opr_int he
  exact h pins s σ H _ _ v u Q I rx ry ⟨i, j, rfl, rfl, c, q _ _ (rp_int m)⟩
def int2 (C : Int → Int → Prop) [∀ i j, Decidable (C i j)] (g : Int → Int → Int) : Op2
  | .int i, .int j => if C i j then some (.dat (.int (g i j))) else none
  | _, _ => none
theorem int2_some {C : Int → Int → Prop} [∀ i j, Decidable (C i j)] {g : Int → Int → Int} (d e : PyData) (dv : DV) (h : int2 C g d e = some dv) : ∃ i j, d = .int i ∧ e = .int j ∧ C i j ∧ dv = .dat (.int (g i j)) := by
  cases d <;> cases e <;> try (cases h; done)
  rename_i i j
  have h : (if C i j then some (DV.dat (.int (g i j))) else none) = some dv := h
  split at h
  · rename_i c; cases h; exact ⟨i, j, rfl, rfl, c, rfl⟩
  · cases h
instance (i j : Int) : Decidable (CMul i j) := by unfold CMul; exact inferInstance
instance (i j : Int) : Decidable (CDivN i j) := by unfold CDivN; exact inferInstance
instance (i j : Int) : Decidable (CPow i j) := by unfold CPow; exact inferInstance
def subD : Op2 := int2 (fun _ _ => True) fun i j => i - j
def fdivD : Op2 := int2 CDivN fun i j => i.fdiv j
def modD : Op2 := int2 (fun _ j => j ≠ 0) fun i j => i.fmod j
def powD : Op2 := int2 CPow fun i j => i ^ j.toNat
theorem op_subD : OpR X (binaryOp .Sub) (rD subD) := op_intI (C := fun _ _ => True) (g := fun i j => i - j) (fun pins s σ H x y v u Q I rx ry ⟨i, j, e1, e2, _, q⟩ => op_sub pins s σ H x y v u Q I rx ry ⟨i, j, e1, e2, q⟩) int2_some
theorem op_fdivD : OpR X (binaryOp .FloorDiv) (rD fdivD) := op_intI op_fdivN int2_some
theorem op_modD : OpR X (binaryOp .Mod) (rD modD) := op_intI op_modN int2_some
theorem op_powD : OpR X (binaryOp .Pow) (rD powD) := op_intI op_pow int2_some
/-! ### * -/
def mulD : Op2
  | .int i, .int j => if CMul i j then some (.dat (.int (i * j))) else none
  | .list xs, .int k => if -(2 ^ 63) ≤ k ∧ k < 2 ^ 63 ∧ xs.length * k.toNat ≤ sizeLine then some (.own (.lst (List.replicate k.toNat xs).flatten)) else none
  | .tuple xs, .int k => if xs ≠ [] ∧ 2 ≤ k ∧ k ≤ 1000 ∧ xs.length ≤ 1000 then some (.dat (.tuple (List.replicate k.toNat xs).flatten)) else none
  | _, _ => none
theorem DqAll.rep {G : Hp} {vs : List V} {ds : List PyData} (h : DqAll G vs ds) : ∀ k : Nat, DqAll G (List.replicate k vs).flatten (List.replicate k ds).flatten
  | 0 => .nil
  | k + 1 => by
    rw [List.replicate_succ, List.replicate_succ, List.flatten_cons, List.flatten_cons]
    exact DqAll.append h (DqAll.rep h k)
theorem op_mulD : OpR X (binaryOp .Mult) (rD mulD) := by
  intro pins s σ H x y v u Q I rx ry h
  obtain ⟨G, d, e, dv, m, hd, he, hop, q⟩ := h
  cases d <;> cases e <;> try (cases hop; done)
  · rename_i i j
    obtain rfl := opr_int hd
    obtain rfl := opr_int he
    have hop : (if CMul i j then some (DV.dat (.int (i * j))) else none) = some dv := hop
    split at hop
    · rename_i hc
      cases hop
      exact op_mul pins s σ H _ _ v u Q I rx ry ⟨i, j, rfl, rfl, hc, q _ _ (rp_int m)⟩
    · cases hop
  · rename_i xs k
    obtain ⟨a, vs, rfl, ha, da⟩ := opr_lst hd m
    obtain rfl := opr_int he
    have hop : (if -(2 ^ 63) ≤ k ∧ k < 2 ^ 63 ∧ xs.length * k.toNat ≤ sizeLine then some (DV.own (.lst (List.replicate k.toNat xs).flatten)) else none) = some dv := hop
    split at hop
    · rename_i hc
      cases hop
      exact op_rep pins s σ H _ _ v u Q I rx ry ⟨a, k, vs, rfl, rfl, ha, hc.1, hc.2.1, by rw [DqAll.length da]; exact hc.2.2, fun p hp => q _ _ (rp_lst hp (DqAll.rep da _))⟩
    · cases hop
  · rename_i xs k
    obtain ⟨a, vs, rfl, ha, da, dpa⟩ := opr_tup hd m
    obtain rfl := opr_int he
    have hop : (if xs ≠ [] ∧ 2 ≤ k ∧ k ≤ 1000 ∧ xs.length ≤ 1000 then some (DV.dat (.tuple (List.replicate k.toNat xs).flatten)) else none) = some dv := hop
    split at hop
    · rename_i hc
      cases hop
      exact op_repT pins s σ H _ _ v u Q I rx ry ⟨a, k, vs, rfl, rfl, SqT.of ha, fun e => hc.1 (by subst e; cases da; rfl), hc.2.1, hc.2.2.1, by rw [DqAll.length da]; exact hc.2.2.2, fun p hp => q _ _ (rp_tup m hp (DqAll.rep da _))⟩
    · cases hop
/-! ### ==, != -/
def leaf : PyData → Bool
  | .none => true
  | .bool _ => true
  | .int _ => true
  | .str _ => true
  | _ => false
def leafs (ds : List PyData) : Bool := ds.all leaf
theorem leaf_eq {G H : Hp} {x y : V} {d e : PyData} (hd : Opr G H x d) (he : Opr G H y e) (l1 : leaf d = true) (l2 : leaf e = true) : (scal x y = true ∧ decide (x = y) = PyData.eqv d e) ∨ (SeqAt.shaped d = true ∧ SeqAt.shaped e = true) := by
  cases d <;> cases e <;> first
    | exact Bool.noConfusion l1
    | exact Bool.noConfusion l2
    | skip
  all_goals first
    | obtain rfl := opr_non hd
    | obtain rfl := opr_bl hd
    | obtain rfl := opr_int hd
    | obtain rfl := opr_str hd
  all_goals first
    | obtain rfl := opr_non he
    | obtain rfl := opr_bl he
    | obtain rfl := opr_int he
    | obtain rfl := opr_str he
  all_goals first
    | (refine .inr ⟨?_, ?_⟩ <;> rfl)
    | (refine .inl ⟨rfl, ?_⟩; rw [dec_str]; simp [PyData.eqv]; done)
    | (refine .inl ⟨rfl, ?_⟩; simp [PyData.eqv]; done)
def eqD : Op2 := fun d e => if (leaf d = true ∧ leaf e = true) ∨ (SeqAt.shaped d = true ∧ SeqAt.shaped e = true) then some (.dat (.bool (PyData.eqv d e))) else none
def neD : Op2 := fun d e => if (leaf d = true ∧ leaf e = true) ∨ (SeqAt.shaped d = true ∧ SeqAt.shaped e = true) then some (.dat (.bool (!PyData.eqv d e))) else none
theorem op_eqDD (hu : X.A.units + 65 < cLine) : OpR X (compareOp .Eq) (rD eqD) := by
  intro pins s σ H x y v u Q I rx ry h
  obtain ⟨G, d, e, dv, m, hd, he, hop, q⟩ := h
  unfold eqD at hop
  split at hop
  · rename_i hc
    cases hop
    have old : SeqAt.shaped d = true ∧ SeqAt.shaped e = true → _ := fun hc => op_eqD (by omega) pins s σ H _ _ v u Q I rx ry ⟨d, e, dq_dp (opr_dp hd m), dq_dp (opr_dp he m), hc.1, hc.2, q _ _ (rp_bl m)⟩
    rcases hc with hc | hc
    · rcases leaf_eq hd he hc.1 hc.2 with ⟨z1, z2⟩ | z
      · exact op_eq pins s σ H _ _ v u Q I rx ry ⟨z1, by rw [z2]; exact q _ _ (rp_bl m)⟩
      · exact old z
    · exact old hc
  · cases hop
theorem op_neDD (hu : X.A.units + 65 < cLine) : OpR X (compareOp .NotEq) (rD neD) := by
  intro pins s σ H x y v u Q I rx ry h
  obtain ⟨G, d, e, dv, m, hd, he, hop, q⟩ := h
  unfold neD at hop
  split at hop
  · rename_i hc
    cases hop
    have old : SeqAt.shaped d = true ∧ SeqAt.shaped e = true → _ := fun hc => op_neD (by omega) pins s σ H _ _ v u Q I rx ry ⟨d, e, dq_dp (opr_dp hd m), dq_dp (opr_dp he m), hc.1, hc.2, q _ _ (rp_bl m)⟩
    rcases hc with hc | hc
    · rcases leaf_eq hd he hc.1 hc.2 with ⟨z1, z2⟩ | z
      · exact op_ne pins s σ H _ _ v u Q I rx ry ⟨z1, by rw [z2]; exact q _ _ (rp_bl m)⟩
      · exact old z
    · exact old hc
  · cases hop
/-! ### order -/
def cmp2 (p : Int → Int → Bool) (t : List Nat → List Nat → Bool) : Op2
  | .int i, .int j => some (.dat (.bool (p i j)))
  | .str x, .str y => some (.dat (.bool (t x.cps.toList y.cps.toList)))
  | _, _ => none
theorem op_cmp2 {op : CmpOp} {p : Int → Int → Bool} {t : List Nat → List Nat → Bool} (h1 : OpR X (compareOp op) (rI0 fun i j => .bl (p i j))) (h2 : OpR X (compareOp op) (fun x y H Q => ∃ i j : Str, x = .str i ∧ y = .str j ∧ Q (.bl (t i.cps.toList j.cps.toList)) H)) :
    OpR X (compareOp op) (rD (cmp2 p t)) := by
  intro pins s σ H x y v u Q I rx ry h
  obtain ⟨G, d, e, dv, m, hd, he, hop, q⟩ := h
  cases d <;> cases e <;> try (cases hop; done)
  · rename_i i j
    cases hop
    obtain rfl := opr_int hd
    obtain rfl := opr_int he
    exact h1 pins s σ H _ _ v u Q I rx ry ⟨i, j, rfl, rfl, q _ _ (rp_bl m)⟩
  · rename_i i j
    cases hop
    obtain rfl := opr_str hd
    obtain rfl := opr_str he
    exact h2 pins s σ H _ _ v u Q I rx ry ⟨i, j, rfl, rfl, q _ _ (rp_bl m)⟩
def ltD : Op2 := cmp2 (fun i j => decide (i < j)) (fun x y => decide (x < y))
def leD : Op2 := cmp2 (fun i j => decide (i ≤ j)) (fun x y => !decide (y < x))
def gtD : Op2 := cmp2 (fun i j => decide (j < i)) (fun x y => decide (y < x))
def geD : Op2 := cmp2 (fun i j => decide (j ≤ i)) (fun x y => !decide (x < y))
theorem op_ltD : OpR X (compareOp .Lt) (rD ltD) := op_cmp2 op_lt op_lt_str
theorem op_leD : OpR X (compareOp .LtE) (rD leD) := op_cmp2 op_le op_le_str
theorem op_gtD : OpR X (compareOp .Gt) (rD gtD) := op_cmp2 op_gt op_gt_str
theorem op_geD : OpR X (compareOp .GtE) (rD geD) := op_cmp2 op_ge op_ge_str
/-! ### in, not in -/
theorem leaf_flat {G H : Hp} {x : V} {d : PyData} (hd : Opr G H x d) (l : leaf d = true) : flatV x = true := by
  cases d <;> first
    | exact Bool.noConfusion l
    | skip
  · obtain rfl := opr_non hd; rfl
  · obtain rfl := opr_bl hd; rfl
  · obtain rfl := opr_int hd; rfl
  · obtain rfl := opr_str hd; rfl
theorem dq_opr {G H : Hp} {x : V} {d : PyData} (h : Dq G x d) : Opr G H x d := .inl h
theorem leafs_flat {G : Hp} : ∀ {vs : List V} {ds : List PyData}, DqAll G vs ds → leafs ds = true → vs.all flatV = true
  | _, _, .nil, _ => rfl
  | _, _, .cons h t, l => by
    obtain ⟨l1, l2⟩ := Bool.and_eq_true_iff.mp (show (leaf _ && leafs _) = true from l)
    show (flatV _ && _) = true
    rw [leaf_flat (dq_opr (H := G) h) l1, leafs_flat t l2]
    rfl
theorem leaf_eqV {G H : Hp} {x y : V} {d e : PyData} (hd : Opr G H x d) (he : Opr G H y e) (l1 : leaf d = true) (l2 : leaf e = true) : eqV x y = PyData.eqv d e := by
  cases d <;> cases e <;> first
    | exact Bool.noConfusion l1
    | exact Bool.noConfusion l2
    | skip
  all_goals first
    | obtain rfl := opr_non hd
    | obtain rfl := opr_bl hd
    | obtain rfl := opr_int hd
    | obtain rfl := opr_str hd
  all_goals first
    | obtain rfl := opr_non he
    | obtain rfl := opr_bl he
    | obtain rfl := opr_int he
    | obtain rfl := opr_str he
  all_goals simp [PyData.eqv, eqV]
theorem leafs_in {G H : Hp} {x : V} {d : PyData} (hd : Opr G H x d) : ∀ {vs : List V} {ds : List PyData}, DqAll G vs ds → leaf d = true → leafs ds = true → inV x vs = ds.any fun z => PyData.eqv z d
  | _, _, .nil, _, _ => rfl
  | _, _, .cons h t, l, l' => by
    obtain ⟨l1, l2⟩ := Bool.and_eq_true_iff.mp (show (leaf _ && leafs _) = true from l')
    have ih := leafs_in hd t l l2
    unfold inV at ih ⊢
    rw [List.any_cons, List.any_cons, ih, leaf_eqV (dq_opr (H := H) h) hd l1 l]
def inL (neg : Bool) : Op2
  | d, .list ds => if (leaf d = true ∧ leafs ds = true) ∨ (SeqAt.shaped d = true ∧ SeqAt.shaped (.list ds) = true) then some (.dat (.bool (if neg then !(ds.any fun z => PyData.eqv z d) else ds.any fun z => PyData.eqv z d))) else none
  | d, .tuple ds => if (leaf d = true ∧ leafs ds = true) ∨ (SeqAt.shaped d = true ∧ SeqAt.shaped (.tuple ds) = true) then some (.dat (.bool (if neg then !(ds.any fun z => PyData.eqv z d) else ds.any fun z => PyData.eqv z d))) else none
  | .str x, .str y => (match x.cps.toList with
    | [c] => some (.dat (.bool (if neg then !decide (c ∈ y.cps.toList) else decide (c ∈ y.cps.toList))))
    | _ => none)
  | _, _ => none
theorem one_sign {x : Str} {c : Nat} (h : x.cps.toList = [c]) : x = ⟨#[c]⟩ := by
  obtain ⟨a⟩ := x
  have h : a.toList = [c] := h
  have : a = #[c] := by
    apply Array.toList_inj.mp
    rw [h]
  rw [this]
theorem op_inLD {neg : Bool} {op : CmpOp} (hop : op = if neg then CmpOp.NotIn else .In) (hu : X.A.units + 65 < cLine) : OpR X (compareOp op) (rD (inL neg)) := by
  subst hop
  intro pins s σ H x y v u Q I rx ry h
  obtain ⟨G, d, e, dv, m, hd, he, hop, q⟩ := h
  have hdp := opr_dp hd m
  have hep := opr_dp he m
  obtain ⟨as, r1⟩ := Dp.reads I d x v (dq_dp hdp) rx
  cases e with
  | list ds =>
    obtain ⟨bs, r2⟩ := Dp.reads I (.list ds) y u (dq_dp hep) ry
    have hop : (if (leaf d = true ∧ leafs ds = true) ∨ (SeqAt.shaped d = true ∧ SeqAt.shaped (.list ds) = true) then some (DV.dat (.bool (if neg then !(ds.any fun z => PyData.eqv z d) else ds.any fun z => PyData.eqv z d))) else none) = some dv := by
      cases d <;> exact hop
    split at hop
    · rename_i hc
      cases hop
      rcases hc with hc | hc
      · obtain ⟨a, vs, rfl, ha, da⟩ := opr_lst he m
        have fl := leafs_flat da hc.2
        have ei := leafs_in hd da hc.1 hc.2
        cases neg with
        | false => exact op_in_seq pins s σ H _ _ v u Q I rx ry ⟨a, vs, rfl, .inl (SqL.of ha), leaf_flat hd hc.1, fl, by rw [ei]; exact q _ _ (rp_bl m)⟩
        | true => exact op_notIn_seq pins s σ H _ _ v u Q I rx ry ⟨a, vs, rfl, .inl (SqL.of ha), leaf_flat hd hc.1, fl, by rw [ei]; exact q _ _ (rp_bl m)⟩
      cases neg with
      | false => exact SeqAt.in_list_reads r2 r1 (SeqAt.canLay_of_shaped hc.2) (SeqAt.canLay_of_shaped hc.1) (room_in_shaped hc.1 hu) ⟨.bl _, H, I, rfl, q _ _ (rp_bl m)⟩
      | true => exact SeqAt.notIn_list_reads r2 r1 (SeqAt.canLay_of_shaped hc.2) (SeqAt.canLay_of_shaped hc.1) (room_in_shaped hc.1 hu) ⟨.bl _, H, I, rfl, q _ _ (rp_bl m)⟩
    · cases hop
  | tuple ds =>
    obtain ⟨bs, r2⟩ := Dp.reads I (.tuple ds) y u (dq_dp hep) ry
    have hop : (if (leaf d = true ∧ leafs ds = true) ∨ (SeqAt.shaped d = true ∧ SeqAt.shaped (.tuple ds) = true) then some (DV.dat (.bool (if neg then !(ds.any fun z => PyData.eqv z d) else ds.any fun z => PyData.eqv z d))) else none) = some dv := by
      cases d <;> exact hop
    split at hop
    · rename_i hc
      cases hop
      rcases hc with hc | hc
      · obtain ⟨a, vs, rfl, ha, da, _⟩ := opr_tup he m
        have fl := leafs_flat da hc.2
        have ei := leafs_in hd da hc.1 hc.2
        cases neg with
        | false => exact op_in_seq pins s σ H _ _ v u Q I rx ry ⟨a, vs, rfl, .inr (SqT.of ha), leaf_flat hd hc.1, fl, by rw [ei]; exact q _ _ (rp_bl m)⟩
        | true => exact op_notIn_seq pins s σ H _ _ v u Q I rx ry ⟨a, vs, rfl, .inr (SqT.of ha), leaf_flat hd hc.1, fl, by rw [ei]; exact q _ _ (rp_bl m)⟩
      cases neg with
      | false => exact SeqAt.in_tuple_reads r2 r1 (SeqAt.canLay_of_shaped hc.2) (SeqAt.canLay_of_shaped hc.1) (room_in_shaped hc.1 hu) ⟨.bl _, H, I, rfl, q _ _ (rp_bl m)⟩
      | true => exact SeqAt.notIn_tuple_reads r2 r1 (SeqAt.canLay_of_shaped hc.2) (SeqAt.canLay_of_shaped hc.1) (room_in_shaped hc.1 hu) ⟨.bl _, H, I, rfl, q _ _ (rp_bl m)⟩
    · cases hop
  | str z =>
    cases d <;> try (cases hop; done)
    rename_i w
    obtain rfl := opr_str hd
    obtain rfl := opr_str he
    have hop : (match w.cps.toList with
      | [c] => some (DV.dat (.bool (if neg then !decide (c ∈ z.cps.toList) else decide (c ∈ z.cps.toList))))
      | _ => none) = some dv := hop
    split at hop
    · rename_i c hc
      cases hop
      obtain rfl := one_sign hc
      cases neg with
      | false => exact op_in_sign pins s σ H _ _ v u Q I rx ry ⟨c, z, rfl, rfl, q _ _ (rp_bl m)⟩
      | true => exact op_notIn_sign pins s σ H _ _ v u Q I rx ry ⟨c, z, rfl, rfl, q _ _ (rp_bl m)⟩
    · cases hop
  | none => cases d <;> cases hop
  | bool b => cases d <;> cases hop
  | int i => cases d <;> cases hop
  | dict kvs => exact (opr_dict he).elim
/-! ### is None -/
def isN (neg : Bool) : Op2
  | d, .none => (match d with
    | .none => some (.dat (.bool (!neg)))
    | _ => some (.dat (.bool neg)))
  | _, _ => none
theorem op_isND {neg : Bool} {op : CmpOp} (hop : op = if neg then CmpOp.IsNot else .Is) : OpR X (compareOp op) (rD (isN neg)) := by
  subst hop
  intro pins s σ H x y v u Q I rx ry h
  obtain ⟨G, d, e, dv, m, hd, he, hop, q⟩ := h
  cases e <;> try (cases d <;> cases hop; done)
  obtain rfl := opr_non he
  have key : ∀ k : Bool, dv = .dat (.bool (if neg then !k else k)) → decide (x = V.non) = k → wpAny (model X.prog X.w) X.A (compareOp (if neg then CmpOp.IsNot else .Is) v u) (EP X pins σ Q) X.xe s := fun k e1 e2 => by
    subst e1
    cases neg with
    | false => exact op_isN pins s σ H _ _ v u Q I rx ry ⟨rfl, by rw [e2]; exact q _ _ (rp_bl m)⟩
    | true => exact op_notN pins s σ H _ _ v u Q I rx ry ⟨rfl, by rw [e2]; exact q _ _ (rp_bl m)⟩
  cases d with
  | none => obtain rfl := opr_non hd; exact key true (by cases hop; cases neg <;> rfl) (decide_eq_true rfl)
  | bool b => obtain rfl := opr_bl hd; exact key false (by cases hop; cases neg <;> rfl) (decide_eq_false (fun z => nomatch z))
  | int b => obtain rfl := opr_int hd; exact key false (by cases hop; cases neg <;> rfl) (decide_eq_false (fun z => nomatch z))
  | str b => obtain rfl := opr_str hd; exact key false (by cases hop; cases neg <;> rfl) (decide_eq_false (fun z => nomatch z))
  | list b => obtain ⟨a, vs, rfl, _⟩ := opr_lst hd m; exact key false (by cases hop; cases neg <;> rfl) (decide_eq_false (fun z => nomatch z))
  | tuple b => obtain ⟨a, vs, rfl, _⟩ := opr_tup hd m; exact key false (by cases hop; cases neg <;> rfl) (decide_eq_false (fun z => nomatch z))
  | dict b => exact (opr_dict hd).elim
end
end Dn
namespace Dn
open PySem PySem.Spec PyProof.Rows L2
/-! ### arguments: operands, as they stand -/
abbrev DA := DEnv → R (List DV × DEnv)
abbrev DF := DEnv → R (List PyData × DEnv)
def dNil : DA := fun r => .ok ([], r)
def dCons (f : DX) (g : DA) : DA := fun r => (opd f r).bind fun p => (g p.2).bind fun q => .ok (p.1 :: q.1, q.2)
/-- items that are given away -/
def dfNil : DF := fun r => .ok ([], r)
def dfCons (f : DX) (g : DF) : DF := fun r => (frzE f r).bind fun p => (g p.2).bind fun q => .ok (p.1 :: q.1, q.2)
section
variable (X : Cx) (W : WX) (fr : Fm) (T : List (Addr × Ob))
def outA (G : Hp) (s : L2.St) (x : R (List DV × DEnv)) (Q : List V → Hp → Prop) : Prop := match x with
  | .ok p => ∀ vs H, (∃ G', Same G G' ∧ Rel X.K X.mg fr T G' p.2 s H ∧ Paired (OpV X G' s) vs p.1) → Q vs H
  | .exc c fs r => ∀ cls d H, XPost X fr T G s c fs r cls d H → W cls d s H
  | .stuck => False
def outF (G : Hp) (s : L2.St) (x : R (List PyData × DEnv)) (Q : List V → Hp → Prop) : Prop := match x with
  | .ok p => ∀ vs H, (∃ G', Same G G' ∧ Rel X.K X.mg fr T G' p.2 s H ∧ DqAll G' vs p.1) → Q vs H
  | .exc c fs r => ∀ cls d H, XPost X fr T G s c fs r cls d H → W cls d s H
  | .stuck => False
def tDA (f : DA) : TA := fun s H Q => ∃ G r, Rel X.K X.mg fr T G r s H ∧ outA X W fr T G s (f r) Q
def tDF (f : DF) : TA := fun s H Q => ∃ G r, Rel X.K X.mg fr T G r s H ∧ outF X W fr T G s (f r) Q
end
def DAs (X : Cx) (W : WX) (es : List Expr) (f : DA) : Prop := ∀ fr T, PA X es (tDA X W fr T f)
def DFs (X : Cx) (W : WX) (es : List Expr) (f : DF) : Prop := ∀ fr T, PA X es (tDF X W fr T f)
theorem pa_imp {X : Cx} {es : List Expr} {t t' : TA} (h : PA X es t) (q : ∀ s H Q, t' s H Q → t s H Q) : PA X es t' := ⟨fun pos pins s σ H Q I w => h.run pos pins s σ H Q I (q σ H Q w)⟩
/-- R by any reading of the outcome -/
structure Outc (X : Cx) (W : WX) (fr : Fm) (T : List (Addr × Ob)) (s : L2.St) (B : Type) where
  O : Hp → R B → Prop
  exc : ∀ {G c fs r}, O G (.exc c fs r) → ∀ cls d H, XPost X fr T G s c fs r cls d H → W cls d s H
  stk : ∀ {G}, ¬ O G .stuck
  mono : ∀ {G G' x}, Same G G' → O G x → O G' x
section
variable {X : Cx} {W : WX} {fr : Fm} {T : List (Addr × Ob)} {G G' : Hp} {r : DEnv} {s : L2.St} {H : Hp}
def ocX (Q : VK) : Outc X W fr T s (DV × DEnv) := ⟨fun G x => out X W fr T G s x Q, fun h => h, fun h => h, fun m h => out.mono m h⟩
def ocT (Q : Bool → Hp → Prop) : Outc X W fr T s (Bool × DEnv) := ⟨fun G x => outT X W fr T G s x Q, fun h => h, fun h => h, fun m h => outT.mono m h⟩
def ocA (Q : List V → Hp → Prop) : Outc X W fr T s (List DV × DEnv) := ⟨fun G x => outA X W fr T G s x Q, fun h => h, fun h => h, fun {G G' x} m h => by
  cases x with
  | ok p => exact fun vs H ⟨G2, m2, q⟩ => h vs H ⟨G2, m.trans m2, q⟩
  | exc c fs r => exact fun cls d H q => h cls d H (q.mono m)
  | stuck => exact h⟩
def ocF (Q : List V → Hp → Prop) : Outc X W fr T s (List PyData × DEnv) := ⟨fun G x => outF X W fr T G s x Q, fun h => h, fun h => h, fun {G G' x} m h => by
  cases x with
  | ok p => exact fun vs H ⟨G2, m2, q⟩ => h vs H ⟨G2, m.trans m2, q⟩
  | exc c fs r => exact fun cls d H q => h cls d H (q.mono m)
  | stuck => exact h⟩
theorem opd_bindO {B : Type} {fa : DX} {g : DV → DEnv → R B} {K1 : VK} (O : Outc X W fr T s B) (rel : Rel X.K X.mg fr T G r s H) (o : O.O G ((opd fa r).bind fun p => g p.1 p.2))
    (hk : ∀ G' r' v H1 dv, Same G G' → Rel X.K X.mg fr T G' r' s H1 → OpV X G' s v dv → O.O G' (g dv r') → K1 v H1) : tD X W fr T fa s H K1 := by
  refine ⟨G, r, rel, ?_⟩
  unfold opd at o
  cases hf : fa r with
  | stuck => rw [hf] at o; exact O.stk o
  | exc c fs r' => rw [hf] at o; exact O.exc o
  | ok p =>
    rw [hf] at o
    obtain ⟨dv, r1⟩ := p
    intro v H1 ⟨G1, m, q⟩
    cases dv with
    | dat d => exact hk G1 r1 v H1 (.dat d) m q.1 q.2 (O.mono m o)
    | loc i => exact hk G1 r1 v H1 (.loc i) m q.1 q.2 (O.mono m o)
    | fn f => exact hk G1 r1 v H1 (.fn f) m q.1 q.2 (O.mono m o)
    | scr ns => exact hk G1 r1 v H1 (.scr ns) m q.1 q.2 (O.mono m o)
    | pr d ob => exact (O.stk o).elim
    | own ob =>
      cases ob with
      | dic kvs => exact (O.stk o).elim
      | lst ds =>
        obtain ⟨a, rfl, q⟩ := q
        obtain ⟨vs, hh, m2, q2, q3⟩ := q.freezeT
        exact hk _ r1 (.ref a) H1 (.dat (.list ds)) (m.trans m2) q2 q3 (O.mono (m.trans m2) o)
theorem frz_bindO {B : Type} {fa : DX} {g : PyData → DEnv → R B} {K1 : VK} (O : Outc X W fr T s B) (rel : Rel X.K X.mg fr T G r s H) (o : O.O G ((frzE fa r).bind fun p => g p.1 p.2))
    (hk : ∀ G' r' v H1 d, Same G G' → Rel X.K X.mg fr T G' r' s H1 → Dq G' v d → O.O G' (g d r') → K1 v H1) : tD X W fr T fa s H K1 := by
  refine ⟨G, r, rel, ?_⟩
  unfold frzE at o
  cases hf : fa r with
  | stuck => rw [hf] at o; exact O.stk o
  | exc c fs r' => rw [hf] at o; exact O.exc o
  | ok p =>
    rw [hf] at o
    obtain ⟨dv, r1⟩ := p
    intro v H1 pq
    have o' : O.O G ((match frz dv r1 with | some q => R.ok q | none => R.stuck).bind fun p => g p.1 p.2) := o
    cases hz : frz dv r1 with
    | none => rw [hz] at o'; exact (O.stk o').elim
    | some q =>
      obtain ⟨d, r2⟩ := q
      rw [hz] at o'
      obtain ⟨G2, m, q2, q3⟩ := frz_ok pq hz
      exact hk G2 r2 v H1 d m q2 q3 (O.mono m o')
theorem da_bindO {B : Type} {fa : DA} {g : List DV → DEnv → R B} {K1 : List V → Hp → Prop} (O : Outc X W fr T s B) (rel : Rel X.K X.mg fr T G r s H) (o : O.O G ((fa r).bind fun p => g p.1 p.2))
    (hk : ∀ G' r' vs H1 dvs, Same G G' → Rel X.K X.mg fr T G' r' s H1 → Paired (OpV X G' s) vs dvs → O.O G' (g dvs r') → K1 vs H1) : tDA X W fr T fa s H K1 := by
  refine ⟨G, r, rel, ?_⟩
  cases hf : fa r with
  | stuck => rw [hf] at o; exact O.stk o
  | exc c fs r' => rw [hf] at o; exact O.exc o
  | ok p =>
    rw [hf] at o
    intro vs H1 ⟨G1, m, q1, q2⟩
    exact hk G1 p.2 vs H1 p.1 m q1 q2 (O.mono m o)
theorem df_bindO {B : Type} {fa : DF} {g : List PyData → DEnv → R B} {K1 : List V → Hp → Prop} (O : Outc X W fr T s B) (rel : Rel X.K X.mg fr T G r s H) (o : O.O G ((fa r).bind fun p => g p.1 p.2))
    (hk : ∀ G' r' vs H1 ds, Same G G' → Rel X.K X.mg fr T G' r' s H1 → DqAll G' vs ds → O.O G' (g ds r') → K1 vs H1) : tDF X W fr T fa s H K1 := by
  refine ⟨G, r, rel, ?_⟩
  cases hf : fa r with
  | stuck => rw [hf] at o; exact O.stk o
  | exc c fs r' => rw [hf] at o; exact O.exc o
  | ok p =>
    rw [hf] at o
    intro vs H1 ⟨G1, m, q1, q2⟩
    exact hk G1 p.2 vs H1 p.1 m q1 q2 (O.mono m o)
theorem paired_mono {vs : List V} {dvs : List DV} (m : Same G G') (h : Paired (OpV X G s) vs dvs) : Paired (OpV X G' s) vs dvs := Paired.mapP h fun _ _ z => z.mono m
theorem da_nil : DAs X W [] dNil := fun fr T => pa_imp pa_nil fun s H Q ⟨G, r, rel, o⟩ => o [] H ⟨G, .refl _, rel, .nil⟩
theorem da_cons {e : Expr} {es : List Expr} {f : DX} {g : DA} (hf : DE X W e f) (hg : DAs X W es g) (hs : starEach (e :: es) X.env = (false, eval e X.env) :: starEach es X.env) : DAs X W (e :: es) (dCons f g) := fun fr T =>
  pa_imp (pa_cons (hf fr T) (hg fr T) hs) fun s H Q ⟨G, r, rel, o⟩ => by
    refine opd_bindO (g := fun a r1 => (g r1).bind fun q => .ok (a :: q.1, q.2)) (ocA Q) rel o fun G1 r1 v H1 dv m rel1 ov o1 => ?_
    refine da_bindO (g := fun as r2 => .ok (dv :: as, r2)) (ocA Q) rel1 o1 fun G2 r2 vs H2 dvs m2 rel2 ovs o2 => ?_
    exact o2 (v :: vs) H2 ⟨G2, .refl _, rel2, .cons (ov.mono m2) ovs⟩
theorem df_nil : DFs X W [] dfNil := fun fr T => pa_imp pa_nil fun s H Q ⟨G, r, rel, o⟩ => o [] H ⟨G, .refl _, rel, .nil⟩
theorem df_cons {e : Expr} {es : List Expr} {f : DX} {g : DF} (hf : DE X W e f) (hg : DFs X W es g) (hs : starEach (e :: es) X.env = (false, eval e X.env) :: starEach es X.env) : DFs X W (e :: es) (dfCons f g) := fun fr T =>
  pa_imp (pa_cons (hf fr T) (hg fr T) hs) fun s H Q ⟨G, r, rel, o⟩ => by
    refine frz_bindO (g := fun a r1 => (g r1).bind fun q => .ok (a :: q.1, q.2)) (ocF Q) rel o fun G1 r1 v H1 d m rel1 ov o1 => ?_
    refine df_bindO (g := fun as r2 => .ok (d :: as, r2)) (ocF Q) rel1 o1 fun G2 r2 vs H2 ds m2 rel2 ovs o2 => ?_
    exact o2 (v :: vs) H2 ⟨G2, .refl _, rel2, .cons (Dq.mono m2 ov) ovs⟩
/-! ### displays -/
def dTup (f : DF) : DX := fun r => (f r).bind fun p => if p.1.length ≤ sizeLine then .ok (.dat (.tuple p.1), p.2) else .stuck
def dLst (f : DF) : DX := fun r => (f r).bind fun p => if p.1.length ≤ sizeLine then .ok (.own (.lst p.1), p.2) else .stuck
theorem de_tup {es : List Expr} {f : DF} {k : Nat} {pos : Pos} (h : DFs X W es f) : DE X W (.Tuple es k pos) (dTup f) := fun fr T =>
  pe_imp (pe_tup (h fr T)) fun s H Q ⟨G, r, rel, o⟩ => by
    refine df_bindO (g := fun ds r1 => if ds.length ≤ sizeLine then .ok (DV.dat (.tuple ds), r1) else .stuck) (ocX Q) rel o fun G1 r1 vs H1 ds m rel1 q o1 => ?_
    by_cases hz : ds.length ≤ sizeLine
    · rw [if_pos hz] at o1
      refine ⟨by rw [DqAll.length q]; exact hz, fun p hp => o1 _ _ ?_⟩
      exact (rp_tup rel1.sub hp q).post rel1
    · rw [if_neg hz] at o1; exact o1.elim
theorem de_lst {es : List Expr} {f : DF} {pos : Pos} (h : DFs X W es f) : DE X W (.List es pos) (dLst f) := fun fr T =>
  pe_imp (pe_lst (h fr T)) fun s H Q ⟨G, r, rel, o⟩ => by
    refine df_bindO (g := fun ds r1 => if ds.length ≤ sizeLine then .ok (DV.own (.lst ds), r1) else .stuck) (ocX Q) rel o fun G1 r1 vs H1 ds m rel1 q o1 => ?_
    by_cases hz : ds.length ≤ sizeLine
    · rw [if_pos hz] at o1
      refine ⟨by rw [DqAll.length q]; exact hz, fun p hp => o1 _ _ ?_⟩
      exact (rp_lst hp q).post rel1
    · rw [if_neg hz] at o1; exact o1.elim
/-! ### built-ins by data -/
def pks : List DV → DEnv → Option (List PyData)
  | [], _ => some []
  | v :: vs, r => (match pk v r, pks vs r with
    | some d, some ds => some (d :: ds)
    | _, _ => none)
theorem pks_ok {dvs : List DV} {vs : List V} (rel : Rel X.K X.mg fr T G r s H) (h : Paired (OpV X G s) vs dvs) : ∀ {ds : List PyData}, pks dvs r = some ds → Paired (Opr G H) vs ds := by
  induction h with
  | nil => intro ds e; cases e; exact .nil
  | cons hv ht ih =>
    rename_i v dv vs dvs
    intro ds e
    have e : (match pk dv r, pks dvs r with
      | some d, some ds => some (d :: ds)
      | _, _ => none) = some ds := e
    split at e
    · rename_i d ds' h1 h2
      cases e
      exact .cons (opr_of rel hv h1) (ih h2)
    · cases e
abbrev OpN := List PyData → Option DV
def rDs (op : OpN) : List V → Hp → VK → Prop := fun vs H Q => ∃ G ds dv, Same G H ∧ Paired (Opr G H) vs ds ∧ op ds = some dv ∧ ∀ v H', RPost G H dv v H' → Q v H'
def cbK (op : OpN) (dvs : List DV) (r : DEnv) : R (DV × DEnv) := match pks dvs r with
  | some ds => (match op ds with
    | some dv => .ok (dv, r)
    | none => .stuck)
  | none => .stuck
def dCB (op : OpN) (fa : DA) : DX := fun r => (fa r).bind fun p => cbK op p.1 p.2
theorem cb_run {op : OpN} {fa : DA} {Q : VK} (h : tD X W fr T (dCB op fa) s H Q) : tCB (rDs op) (tDA X W fr T fa) s H Q := by
  obtain ⟨G, r, rel, o⟩ := h
  refine da_bindO (g := fun dvs r1 => cbK op dvs r1) (ocX Q) rel o fun G1 r1 vs H1 dvs m rel1 ovs o1 => ?_
  have o1 : out X W fr T G1 s (cbK op dvs r1) Q := o1
  unfold cbK at o1
  split at o1
  · rename_i ds hds
    split at o1
    · rename_i dv hop
      exact ⟨G1, ds, dv, rel1.sub, pks_ok rel1 ovs hds, hop, fun v' H' q => o1 v' H' (q.post rel1)⟩
    · exact o1.elim
  · exact o1.elim
theorem de_callB {op : OpN} {x : Str} {id : String} {e : Expr} {es : List Expr} {p pos : Pos} {fa : DA} (hc : CallR X (.builtin id) (rDs op)) (hg : Gl X x) (hm : X.mg x = none) (hv : bootBuiltins x = some (.builtin id)) (ha : DAs X W (e :: es) fa) (hn : x ≠ "__name__") (hdb : (x == ("__debug__" : Str)) = false)
    (he : starEach (e :: es) X.env = (false, eval e X.env) :: starEach es X.env) (hpl : (backTo pos (starEach es X.env)).any (·.1) = false) : DE X W (.Call (.Name x p) (e :: es) [] pos) (dCB op fa) := fun fr T =>
  pe_imp (pe_callB hc hg hm hv (ha fr T) hn hdb he hpl) fun _ _ _ h => cb_run h
theorem de_callTy {op : OpN} {x : Str} {id : String} {e : Expr} {es : List Expr} {p pos : Pos} {fa : DA} (hc : CallR X (.type id) (rDs op)) (hg : Gl X x) (hm : X.mg x = none) (hv : bootBuiltins x = some (.type id)) (ha : DAs X W (e :: es) fa) (hn : x ≠ "__name__") (hdb : (x == ("__debug__" : Str)) = false)
    (he : starEach (e :: es) X.env = (false, eval e X.env) :: starEach es X.env) (hpl : (backTo pos (starEach es X.env)).any (·.1) = false) : DE X W (.Call (.Name x p) (e :: es) [] pos) (dCB op fa) := fun fr T =>
  pe_imp (pe_callTy hc hg hm hv (ha fr T) hn hdb he hpl) fun _ _ _ h => cb_run h
end
/-! ### one argument -/
section
variable {X : Cx}
/-- a built-in of one argument, case by case -/
def op1 (f : PyData → Option DV) : OpN
  | [d] => f d
  | _ => none
def op2 (f : Op2) : OpN
  | [d, e] => f d e
  | _ => none
theorem cr_op1 {g : Value} {f : PyData → Option DV} (h : ∀ (pins : List (Addr × Obj)) (s : Shared) (σ : L2.St) (G H : Hp) (x : V) (u : Value) (Q : VK) (d : PyData) (dv : DV), Inv X pins σ H s → RelV x u → Same G H → Opr G H x d → f d = some dv → (∀ v H', RPost G H dv v H' → Q v H') →
    wpAny (model X.prog X.w) X.A (call g [u]) (EP X pins σ Q) X.xe s) : CallR X g (rDs (op1 f)) := by
  intro pins s σ H xs us Q I r hh
  obtain ⟨G, ds, dv, m, pr, hop, q⟩ := hh
  cases pr with
  | nil => cases hop
  | cons h1 ht =>
    cases ht with
    | cons _ _ => cases hop
    | nil =>
      obtain ⟨u, rfl, ru⟩ := Vals.one r
      exact h pins s σ G H _ u Q _ dv I ru m h1 hop q
theorem cr_op2 {g : Value} {f : Op2} (h : ∀ (pins : List (Addr × Obj)) (s : Shared) (σ : L2.St) (G H : Hp) (x y : V) (u w : Value) (Q : VK) (d e : PyData) (dv : DV), Inv X pins σ H s → RelV x u → RelV y w → Same G H → Opr G H x d → Opr G H y e → f d e = some dv → (∀ v H', RPost G H dv v H' → Q v H') →
    wpAny (model X.prog X.w) X.A (call g [u, w]) (EP X pins σ Q) X.xe s) : CallR X g (rDs (op2 f)) := by
  intro pins s σ H xs us Q I r hh
  obtain ⟨G, ds, dv, m, pr, hop, q⟩ := hh
  cases pr with
  | nil => cases hop
  | cons h1 ht =>
    cases ht with
    | nil => cases hop
    | cons h2 ht =>
      cases ht with
      | cons _ _ => cases hop
      | nil =>
        obtain ⟨u, w, rfl, ru, rw'⟩ := Vals.two r
        exact h pins s σ G H _ _ u w Q _ _ dv I ru rw' m h1 h2 hop q
theorem v1 {x : V} {u : Value} (r : RelV x u) : Vals [x] [u] := .cons r .nil
theorem v2 {x y : V} {u w : Value} (r : RelV x u) (q : RelV y w) : Vals [x, y] [u, w] := .cons r (.cons q .nil)
def lenD : PyData → Option DV
  | .list ds => some (.dat (.int ds.length))
  | .tuple ds => some (.dat (.int ds.length))
  | .str z => if z.length ≤ sizeLine then some (.dat (.int z.length)) else none
  | _ => none
theorem cr_len : CallR X (.builtin "len") (rDs (op1 lenD)) := cr_op1 fun pins s σ G H x u Q d dv I ru m h1 hop q => by
  cases d <;> try (cases hop; done)
  · rename_i z
    have hop : (if z.length ≤ sizeLine then some (DV.dat (.int z.length)) else none) = some dv := hop
    split at hop
    · rename_i hz
      cases hop
      obtain rfl := opr_str h1
      exact call_len_str pins s σ H _ _ Q I (v1 ru) ⟨z, rfl, hz, q _ _ (rp_int m)⟩
    · cases hop
  · cases hop
    obtain ⟨a, vs, rfl, ha, da⟩ := opr_lst h1 m
    refine call_len_seq pins s σ H _ _ Q I (v1 ru) ⟨a, vs, rfl, .inl (SqL.of ha), ?_⟩
    rw [DqAll.length da]
    exact q _ _ (rp_int m)
  · cases hop
    obtain ⟨a, vs, rfl, ha, da, _⟩ := opr_tup h1 m
    refine call_len_seq pins s σ H _ _ Q I (v1 ru) ⟨a, vs, rfl, .inr (SqT.of ha), ?_⟩
    rw [DqAll.length da]
    exact q _ _ (rp_int m)
def tupleD : PyData → Option DV
  | .list ds => some (.dat (.tuple ds))
  | .tuple ds => some (.dat (.tuple ds))
  | _ => none
theorem cr_tuple : CallR X (.type "tuple") (rDs (op1 tupleD)) := cr_op1 fun pins s σ G H x u Q d dv I ru m h1 hop q => by
  cases d <;> try (cases hop; done)
  · cases hop
    obtain ⟨a, vs, rfl, ha, da⟩ := opr_lst h1 m
    exact call_tuple_of pins s σ H _ _ Q I (v1 ru) ⟨a, vs, rfl, .inl ⟨SqL.of ha, fun l hl => q _ _ (rp_tup m hl da)⟩⟩
  · cases hop
    obtain ⟨a, vs, rfl, ha, da, dp⟩ := opr_tup h1 m
    exact call_tuple_of pins s σ H _ _ Q I (v1 ru) ⟨a, vs, rfl, .inr ⟨SqT.of ha, q _ _ (RPost.same m dp)⟩⟩
def listD : PyData → Option DV
  | .list ds => some (.own (.lst ds))
  | .tuple ds => some (.own (.lst ds))
  | _ => none
theorem cr_list : CallR X (.type "list") (rDs (op1 listD)) := cr_op1 fun pins s σ G H x u Q d dv I ru m h1 hop q => by
  cases d <;> try (cases hop; done)
  · cases hop
    obtain ⟨a, vs, rfl, ha, da⟩ := opr_lst h1 m
    exact call_list_of pins s σ H _ _ Q I (v1 ru) ⟨a, vs, rfl, .inl (SqL.of ha), fun l hl => q _ _ (rp_lst hl da)⟩
  · cases hop
    obtain ⟨a, vs, rfl, ha, da, dp⟩ := opr_tup h1 m
    exact call_list_of pins s σ H _ _ Q I (v1 ru) ⟨a, vs, rfl, .inr (SqT.of ha), fun l hl => q _ _ (rp_lst hl da)⟩
def intD : PyData → Option DV
  | .int i => some (.dat (.int i))
  | .bool b => some (.dat (.int (if b then 1 else 0)))
  | _ => none
theorem cr_int : CallR X (.type "int") (rDs (op1 intD)) := cr_op1 fun pins s σ G H x u Q d dv I ru m h1 hop q => by
  cases d <;> try (cases hop; done)
  · rename_i b
    cases hop
    obtain rfl := opr_bl h1
    exact call_int1 pins s σ H _ _ Q I (v1 ru) (.inr ⟨b, rfl, q _ _ (rp_int m)⟩)
  · rename_i i
    cases hop
    obtain rfl := opr_int h1
    exact call_int1 pins s σ H _ _ Q I (v1 ru) (.inl ⟨i, rfl, q _ _ (rp_int m)⟩)
def absD : PyData → Option DV
  | .int i => some (.dat (.int (if i < 0 then -i else i)))
  | _ => none
theorem cr_abs : CallR X (.builtin "abs") (rDs (op1 absD)) := cr_op1 fun pins s σ G H x u Q d dv I ru m h1 hop q => by
  cases d <;> try (cases hop; done)
  rename_i i
  cases hop
  obtain rfl := opr_int h1
  exact call_abs pins s σ H _ _ Q I (v1 ru) ⟨i, rfl, q _ _ (rp_int m)⟩
def min2D : Op2
  | .int i, .int j => some (.dat (.int (if j < i then j else i)))
  | _, _ => none
def max2D : Op2
  | .int i, .int j => some (.dat (.int (if j > i then j else i)))
  | _, _ => none
theorem cr_min2 (hc : X.calm = true) : CallR X (.builtin "min") (rDs (op2 min2D)) := cr_op2 fun pins s σ G H x y u w Q d e dv I ru rw' m h1 h2 hop q => by
  cases d <;> cases e <;> try (cases hop; done)
  rename_i i j
  cases hop
  obtain rfl := opr_int h1
  obtain rfl := opr_int h2
  exact call_min2 hc pins s σ H _ _ Q I (v2 ru rw') ⟨i, j, rfl, q _ _ (rp_int m)⟩
theorem cr_max2 (hc : X.calm = true) : CallR X (.builtin "max") (rDs (op2 max2D)) := cr_op2 fun pins s σ G H x y u w Q d e dv I ru rw' m h1 h2 hop q => by
  cases d <;> cases e <;> try (cases hop; done)
  rename_i i j
  cases hop
  obtain rfl := opr_int h1
  obtain rfl := opr_int h2
  exact call_max2 hc pins s σ H _ _ Q I (v2 ru rw') ⟨i, j, rfl, q _ _ (rp_int m)⟩
/-! lists of one kind -/
def asInts : List PyData → Option (List Int)
  | [] => some []
  | .int i :: r => (asInts r).map (i :: ·)
  | _ => none
def asBools : List PyData → Option (List Bool)
  | [] => some []
  | .bool i :: r => (asBools r).map (i :: ·)
  | _ => none
theorem asInts_ok {G : Hp} : ∀ {vs : List V} {ds : List PyData} {ns : List Int}, DqAll G vs ds → asInts ds = some ns → vs = ns.map V.int
  | _, _, _, .nil, e => by cases e; rfl
  | _, _, ns, .cons h t, e => by
    cases h <;> try (cases e; done)
    rename_i vs ds i
    have e : (asInts ds).map (i :: ·) = some ns := e
    cases hr : asInts ds with
    | none => rw [hr] at e; cases e
    | some ms => rw [hr] at e; cases e; rw [asInts_ok t hr]; rfl
theorem asBools_ok {G : Hp} : ∀ {vs : List V} {ds : List PyData} {ns : List Bool}, DqAll G vs ds → asBools ds = some ns → vs = ns.map V.bl
  | _, _, _, .nil, e => by cases e; rfl
  | _, _, ns, .cons h t, e => by
    cases h <;> try (cases e; done)
    rename_i vs ds i
    have e : (asBools ds).map (i :: ·) = some ns := e
    cases hr : asBools ds with
    | none => rw [hr] at e; cases e
    | some ms => rw [hr] at e; cases e; rw [asBools_ok t hr]; rfl
def sumD : PyData → Option DV
  | .list ds => (match asInts ds with
    | some ns => some (.dat (.int ns.sum))
    | none => none)
  | _ => none
theorem cr_sumD (hc : X.calm = true) : CallR X (.builtin "sum") (rDs (op1 sumD)) := cr_op1 fun pins s σ G H x u Q d dv I ru m h1 hop q => by
  cases d <;> try (cases hop; done)
  rename_i ds
  have hop : (match asInts ds with
    | some ns => some (DV.dat (.int ns.sum))
    | none => none) = some dv := hop
  split at hop
  · rename_i ns hns
    cases hop
    obtain ⟨a, vs, rfl, ha, da⟩ := opr_lst h1 m
    rw [asInts_ok da hns] at ha
    exact cr_sum hc pins s σ H _ _ Q I (v1 ru) ⟨a, ns, rfl, SqL.of ha, q _ _ (rp_int m)⟩
  · cases hop
def anyD : PyData → Option DV
  | .list ds => (match asBools ds with
    | some bs => some (.dat (.bool (bs.any id)))
    | none => none)
  | _ => none
def allD : PyData → Option DV
  | .list ds => (match asBools ds with
    | some bs => some (.dat (.bool (bs.all id)))
    | none => none)
  | _ => none
theorem cr_anyD (hc : X.calm = true) : CallR X (.builtin "any") (rDs (op1 anyD)) := cr_op1 fun pins s σ G H x u Q d dv I ru m h1 hop q => by
  cases d <;> try (cases hop; done)
  rename_i ds
  have hop : (match asBools ds with
    | some bs => some (DV.dat (.bool (bs.any id)))
    | none => none) = some dv := hop
  split at hop
  · rename_i ns hns
    cases hop
    obtain ⟨a, vs, rfl, ha, da⟩ := opr_lst h1 m
    rw [asBools_ok da hns] at ha
    exact cr_any hc pins s σ H _ _ Q I (v1 ru) ⟨a, ns, rfl, SqL.of ha, q _ _ (rp_bl m)⟩
  · cases hop
theorem cr_allD (hc : X.calm = true) : CallR X (.builtin "all") (rDs (op1 allD)) := cr_op1 fun pins s σ G H x u Q d dv I ru m h1 hop q => by
  cases d <;> try (cases hop; done)
  rename_i ds
  have hop : (match asBools ds with
    | some bs => some (DV.dat (.bool (bs.all id)))
    | none => none) = some dv := hop
  split at hop
  · rename_i ns hns
    cases hop
    obtain ⟨a, vs, rfl, ha, da⟩ := opr_lst h1 m
    rw [asBools_ok da hns] at ha
    exact cr_all hc pins s σ H _ _ Q I (v1 ru) ⟨a, ns, rfl, SqL.of ha, q _ _ (rp_bl m)⟩
  · cases hop
/-! repr -/
def reprD : PyData → Option DV := fun d => if d.showable = true ∧ SeqAt.shaped d = true ∧ d.shown.length ≤ sizeLine then some (.dat (.str d.shown)) else none
theorem cr_repr (hg : X.A.guards = some []) (hu : X.A.units + 66 < cLine) : CallR X (.builtin "repr") (rDs (op1 reprD)) := cr_op1 fun pins s σ G H x u Q d dv I ru m h1 hop q => by
  unfold reprD at hop
  split at hop
  · rename_i hc
    cases hop
    have dep := SeqAt.depth_of_shaped hc.2.1
    have nod := PyData.hasDict_of_canLay d (SeqAt.canLay_of_shaped hc.2.1)
    obtain ⟨as, rd⟩ := Dp.reads I d x u (dq_dp (opr_dp h1 m)) ru
    have fin : ∀ h' (w : Tok) tk, (∀ b o, s.heap.get? b = some o → h'.get? b = some o) → EP X pins σ Q (.str d.shown w) { s with heap := h', toks := tk } := fun h' w tk k => ⟨.str d.shown, H, I.kept k, ⟨_, rfl⟩, q _ _ (rp_str m)⟩
    cases x with
    | ref a =>
      obtain rfl : u = .ref a := ru
      exact repr_of_reads' rd hc.1 (fun z => by rw [nod] at z; cases z) hg (by omega) (fun _ _ e => e) (fun h' w tk k => fin h' w tk k) hc.2.2
    | non =>
      obtain rfl : u = .none := ru
      cases rd
      exact PySem.P.repr_of_none (fin s.heap _ _ fun _ _ e => e)
    | bl b =>
      obtain rfl : u = .bool b := ru
      cases rd
      exact PySem.P.repr_of_bool (fin s.heap _ _ fun _ _ e => e)
    | int i =>
      obtain ⟨t, rfl⟩ := ru
      cases rd
      have hs : i.natAbs.log2 < 1920 := by simpa [PyData.showable] using hc.1
      exact PySem.P.repr_of_int hs (fin s.heap _ _ fun _ _ e => e)
    | str z =>
      obtain ⟨t, rfl⟩ := ru
      cases rd
      exact PySem.P.repr_of_str (fin s.heap _ _ fun _ _ e => e) hc.2.2
    | byt b => rcases h1 with z | ⟨_, _, _, z, _⟩ <;> cases z
    | flt b => rcases h1 with z | ⟨_, _, _, z, _⟩ <;> cases z
    | ty n => rcases h1 with z | ⟨_, _, _, z, _⟩ <;> cases z
  · cases hop
/-! sorted -/
def sortKind (ds : List PyData) : Bool := (ds.all fun d => match d with | .tuple (_ :: _) => true | _ => false) || ds.all fun d => match d with | .none => false | .tuple _ => false | _ => true
def sortOk (ds : List PyData) : Bool := (ds.all fun d => ds.all fun e => PySem.W.alike d e) && sortKind ds && ds.all fun d => decide (d.depth ≤ 32)
def sortedL (ds : List PyData) : List PyData := ds.mergeSort (PySem.W.dataLe false fun d => d)
def sortD : PyData → Option DV
  | .list ds => if sortOk ds = true then some (.own (.lst (sortedL ds))) else none
  | _ => none
theorem each_of {G : Hp} : ∀ {vs : List V} {us : List Value} {ds : List PyData}, Vals vs us → DqAll G vs ds → PySem.W.EachIs (fun u d => ∃ v, RelV v u ∧ Dq G v d) us ds
  | _, _, _, .nil, .nil => .nil
  | _, _, _, .cons r t, .cons h q => .cons ⟨_, r, h⟩ (each_of t q)
theorem of_each {G : Hp} : ∀ {us : List Value} {ds : List PyData}, PySem.W.EachIs (fun u d => ∃ v, RelV v u ∧ Dq G v d) us ds → ∃ vs, Vals vs us ∧ DqAll G vs ds
  | _, _, .nil => ⟨[], .nil, .nil⟩
  | _, _, .cons ⟨v, r, h⟩ t => let ⟨vs, r', h'⟩ := of_each t; ⟨v :: vs, .cons r r', .cons h h'⟩
theorem sortKind_ok {ds : List PyData} (h : sortKind ds = true) : PySem.W.Sortable ds := by
  unfold sortKind at h
  rcases Bool.or_eq_true_iff.mp h with h | h
  · refine .inl fun d hd => ?_
    have q := List.all_eq_true.mp h d hd
    cases d <;> try (cases q; done)
    rename_i xs
    cases xs with
    | nil => cases q
    | cons x r => exact ⟨x, r, rfl⟩
  · refine .inr fun d hd => ?_
    have q := List.all_eq_true.mp h d hd
    exact ⟨fun z => (by rw [z] at q; cases q), fun xs z => (by rw [z] at q; cases q)⟩
theorem cr_sortedD (hu : X.A.units + 66 < cLine) : CallR X (.builtin "sorted") (rDs (op1 sortD)) := cr_op1 fun pins s σ G H x u Q d dv I ru m h1 hop q => by
  cases d <;> try (cases hop; done)
  rename_i ds
  have hop : (if sortOk ds = true then some (DV.own (.lst (sortedL ds))) else none) = some dv := hop
  split at hop
  · rename_i hs
    cases hop
    obtain ⟨hs1, hs3⟩ := Bool.and_eq_true_iff.mp hs
    obtain ⟨hs1, hs2⟩ := Bool.and_eq_true_iff.mp hs1
    obtain ⟨a, vs, rfl, ha, da⟩ := opr_lst h1 m
    obtain rfl : u = .ref a := ru
    obtain ⟨its, rv, pl, hz⟩ := I.list (SqL.of ha)
    have e := each_of rv da
    have er : PySem.W.EachIs (fun v b => ∃ as, Reads s.heap v b as) its ds := e.mono fun u d ⟨v, r, hd⟩ => Dp.reads I d v u (dq_dp (Dq.mono m hd)) r
    refine PySem.W.sorted_data (enc := fun d => d) pl.isList e er ?_ ?_ (by rw [← DqAll.length da]; exact hz) (fun b hb => ?_) fun out' ho eo => ?_
    · rw [List.map_id']
      exact fun d hd d' hd' => List.all_eq_true.mp (List.all_eq_true.mp hs1 d hd) d' hd'
    · rw [List.map_id']
      exact sortKind_ok hs2
    · have := of_decide_eq_true (List.all_eq_true.mp hs3 b hb)
      show X.A.units + 2 + b.depth < cLine
      omega
    · obtain ⟨ws, rw', dw⟩ := of_each eo
      obtain ⟨ep, he'⟩ := PyProof.Rows.sortedAll_at s.heap its out'.toArray
      have hw : ws.length ≤ sizeLine := by rw [rw'.length, ho, ← DqAll.length da]; exact hz
      refine ⟨.ref _, upd H (s.heap.objs.size + 1) (.lst ws), I.laid (t' := s.toks) (fun _ _ => PyProof.Rows.sortedAll_old) (Nat.le_succ _) ⟨hw, out', ep, rw', he'⟩, rfl, ?_⟩
      exact q _ _ (rp_lst (I.hok.fresh (Nat.le_succ _)) dw)
  · cases hop
end
end Dn
namespace Dn
open PySem PySem.Spec PyProof.Rows L2
/-! ### items and slices -/
section
variable {X : Cx} {W : WX}
def ixD : Op2
  | .list ds, .int i => (match atI ds i with
    | some d => some (.dat d)
    | none => none)
  | .tuple ds, .int i => (match atI ds i with
    | some d => some (.dat d)
    | none => none)
  | .str z, .int i => if z.length ≤ sizeLine then (match atI z.cps.toList i with
    | some c => some (.dat (.str ⟨#[c]⟩))
    | none => none) else none
  | _, _ => none
theorem atI_dq {G : Hp} {vs : List V} {ds : List PyData} {i : Int} {d : PyData} (h : DqAll G vs ds) (e : atI ds i = some d) : ∃ v, atI vs i = some v ∧ Dq G v d := by
  unfold atI at e ⊢
  rw [DqAll.length h]
  cases hn : ixN ds.length i with
  | none => rw [hn] at e; cases e
  | some j =>
    rw [hn] at e
    exact DqAll.get h e
theorem ix_dq : IxR X (rD ixD) := by
  intro value slice pins s σ H x y v u Q I rx ry h hsub
  obtain ⟨G, d, e, dv, m, hd, he, hop, q⟩ := h
  cases d <;> cases e <;> try (cases hop; done)
  · rename_i z i
    have hop : (if z.length ≤ sizeLine then (match atI z.cps.toList i with
      | some c => some (DV.dat (.str ⟨#[c]⟩))
      | none => none) else none) = some dv := hop
    obtain rfl := opr_str hd
    obtain rfl := opr_int he
    split at hop
    · rename_i hz
      split at hop
      · rename_i c hc
        cases hop
        exact ix_str value slice pins s σ H _ _ v u Q I rx ry ⟨z, i, c, rfl, rfl, hz, hc, q _ _ (rp_str m)⟩ hsub
      · cases hop
    · cases hop
  · rename_i ds i
    have hop : (match atI ds i with
      | some d => some (DV.dat d)
      | none => none) = some dv := hop
    obtain rfl := opr_int he
    obtain ⟨a, vs, rfl, ha, da⟩ := opr_lst hd m
    split at hop
    · rename_i d hi
      cases hop
      obtain ⟨w, hw, dw⟩ := atI_dq da hi
      exact ix_list value slice pins s σ H _ _ v u Q I rx ry ⟨a, vs, i, w, rfl, rfl, SqL.of ha, hw, q _ _ (RPost.same m dw)⟩ hsub
    · cases hop
  · rename_i ds i
    have hop : (match atI ds i with
      | some d => some (DV.dat d)
      | none => none) = some dv := hop
    obtain rfl := opr_int he
    obtain ⟨a, vs, rfl, ha, da, _⟩ := opr_tup hd m
    split at hop
    · rename_i d hi
      cases hop
      obtain ⟨w, hw, dw⟩ := atI_dq da hi
      exact ix_tup value slice pins s σ H _ _ v u Q I rx ry ⟨a, vs, i, w, rfl, rfl, SqT.of ha, hw, q _ _ (RPost.same m dw)⟩ hsub
    · cases hop
theorem de_ix {a b : Expr} {fa fb : DX} {pos : Pos} (ha : DE X W a fa) (hb : DE X W b fb) (hs : PlainIx b) : DE X W (.Subscript a b pos) (dBin ixD fa fb) := fun fr T =>
  pe_imp (pe_ix ix_dq (ha fr T) (hb fr T) hs) fun _ _ _ h => bin_run h
/-- a part of a slice -/
abbrev DO := DEnv → R (Option Int × DEnv)
def dNo : DO := fun r => .ok (none, r)
def dPart (f : DX) : DO := fun r => (opd f r).bind fun p => match p.1 with
  | .dat (.int i) => .ok (some i, p.2)
  | _ => .stuck
section
variable (X : Cx) (W : WX) (fr : Fm) (T : List (Addr × Ob))
def outO (G : Hp) (s : L2.St) (x : R (Option Int × DEnv)) (Q : Option Int → Hp → Prop) : Prop := match x with
  | .ok p => ∀ H, (∃ G', Same G G' ∧ Rel X.K X.mg fr T G' p.2 s H) → Q p.1 H
  | .exc c fs r => ∀ cls d H, XPost X fr T G s c fs r cls d H → W cls d s H
  | .stuck => False
def tDO (f : DO) : TO := fun s H Q => ∃ G r, Rel X.K X.mg fr T G r s H ∧ outO X W fr T G s (f r) Q
end
def DOp (X : Cx) (W : WX) (e : Option Expr) (f : DO) : Prop := ∀ fr T, PO X e (tDO X W fr T f)
theorem po_imp {e : Option Expr} {t t' : TO} (h : PO X e t) (q : ∀ s H Q, t' s H Q → t s H Q) : PO X e t' := ⟨fun pins s σ H Q I w => h.run pins s σ H Q I (q σ H Q w)⟩
theorem do_none : DOp X W none dNo := fun fr T => po_imp po_none fun s H Q ⟨G, r, rel, o⟩ => o H ⟨G, .refl _, rel⟩
section
variable {fr : Fm} {T : List (Addr × Ob)} {G : Hp} {r : DEnv} {s : L2.St} {H : Hp}
def ocO (Q : Option Int → Hp → Prop) : Outc X W fr T s (Option Int × DEnv) := ⟨fun G x => outO X W fr T G s x Q, fun h => h, fun h => h, fun {G G' x} m h => by
  cases x with
  | ok p => exact fun H ⟨G2, m2, q⟩ => h H ⟨G2, m.trans m2, q⟩
  | exc c fs r => exact fun cls d H q => h cls d H (q.mono m)
  | stuck => exact h⟩
theorem do_bindO {B : Type} {fa : DO} {g : Option Int → DEnv → R B} {K1 : Option Int → Hp → Prop} (O : Outc X W fr T s B) (rel : Rel X.K X.mg fr T G r s H) (o : O.O G ((fa r).bind fun p => g p.1 p.2))
    (hk : ∀ G' r' b H1, Same G G' → Rel X.K X.mg fr T G' r' s H1 → O.O G' (g b r') → K1 b H1) : tDO X W fr T fa s H K1 := by
  refine ⟨G, r, rel, ?_⟩
  cases hf : fa r with
  | stuck => rw [hf] at o; exact O.stk o
  | exc c fs r' => rw [hf] at o; exact O.exc o
  | ok p =>
    rw [hf] at o
    intro H1 ⟨G1, m, q⟩
    exact hk G1 p.2 p.1 H1 m q (O.mono m o)
end
theorem do_some {e : Expr} {f : DX} (h : DE X W e f) : DOp X W (some e) (dPart f) := fun fr T => po_imp (po_some (h fr T)) fun s H Q ⟨G, r, rel, o⟩ => by
  refine opd_bindO (g := fun dv r1 => match dv with
    | .dat (.int i) => .ok (some i, r1)
    | _ => .stuck) (ocO Q) rel o fun G1 r1 v H1 dv m rel1 ov o1 => ?_
  cases dv <;> try (exact o1.elim)
  rename_i d
  cases d <;> try (exact o1.elim)
  rename_i i
  cases ov
  exact ⟨i, rfl, o1 H1 ⟨G1, .refl _, rel1⟩⟩
def cutL {A : Type} (xs : List A) (lo hi : Option Int) : List A := (xs.drop (HT.sIx xs.length 0 lo)).take (HT.sIx xs.length xs.length hi - HT.sIx xs.length 0 lo)
theorem cut_dq {G : Hp} {vs : List V} {ds : List PyData} (h : DqAll G vs ds) (lo hi : Option Int) : DqAll G (cutV vs lo hi) (cutL ds lo hi) := by
  unfold cutV cutL
  rw [DqAll.length h]
  exact DqAll.take _ (DqAll.drop _ h)
def slD : PyData → Option Int → Option Int → Option DV
  | .list ds, lo, hi => some (.own (.lst (cutL ds lo hi)))
  | .tuple ds, lo, hi => some (.dat (.tuple (cutL ds lo hi)))
  | .str z, lo, hi => if z.length ≤ sizeLine then some (.dat (.str (cutS z lo hi))) else none
  | _, _, _ => none
def rSlD (K : PySem.W.Frag) : V → Option Int → Option Int → Hp → VK → Prop := fun x lo hi H Q => ∃ G, Same G H ∧ ((∃ d dv, Opr G H x d ∧ slD d lo hi = some dv ∧ ∀ v H', RPost G H dv v H' → Q v H') ∨
  ∃ (a : Addr) (ns : List Int), x = .ref a ∧ SqL K H a (ns.map V.int) ∧ ∀ v H', RPost G H (.own (.lst (cutL (ns.map PyData.int) lo hi))) v H' → Q v H')
theorem cut_whole {ds : List PyData} {lo hi : Option Int} (h : HT.sIx ds.length 0 lo = 0 ∧ HT.sIx ds.length ds.length hi = ds.length) : cutL ds lo hi = ds := by
  unfold cutL
  rw [h.1, h.2]
  simp
theorem dq_ints {G : Hp} : ∀ ns : List Int, DqAll G (ns.map V.int) (ns.map PyData.int)
  | [] => .nil
  | i :: r => .cons (.int i) (dq_ints r)
theorem sl_dq : SlR X (rSlD X.K) := by
  intro pins s σ H x v vl vu lo hi sl Q I rx hs pl pu h
  obtain ⟨G, m, h⟩ := h
  rcases h with ⟨d, dv, hd, hop, q⟩ | ⟨a, ns, rfl, hq, q⟩
  · cases d <;> try (cases hop; done)
    · rename_i z
      have hop : (if z.length ≤ sizeLine then some (DV.dat (.str (cutS z lo hi))) else none) = some dv := hop
      obtain rfl := opr_str hd
      split at hop
      · rename_i hz
        cases hop
        exact sl_str pins s σ H _ v vl vu lo hi sl Q I rx hs pl pu ⟨z, rfl, hz, q _ _ (rp_str m)⟩
      · cases hop
    · cases hop
      obtain ⟨a, vs, rfl, ha, da⟩ := opr_lst hd m
      exact sl_list pins s σ H _ v vl vu lo hi sl Q I rx hs pl pu ⟨a, vs, rfl, SqL.of ha, fun p hp => q _ _ (rp_lst hp (cut_dq da lo hi))⟩
    · rename_i ds
      cases hop
      obtain ⟨a, vs, rfl, ha, da, dp⟩ := opr_tup hd m
      refine sl_tupA pins s σ H _ v vl vu lo hi sl Q I rx hs pl pu ⟨a, vs, rfl, SqT.of ha, fun hw => ?_, fun _ p hp => q _ _ (rp_tup m hp (cut_dq da lo hi))⟩
      rw [DqAll.length da] at hw
      rw [cut_whole hw] at q
      exact q _ _ (RPost.same m dp)
  · exact sl_list pins s σ H _ v vl vu lo hi sl Q I rx hs pl pu ⟨a, _, rfl, hq, fun p hp => q _ _ (rp_lst hp (cut_dq (dq_ints ns) lo hi))⟩
def slK (a : DV) (lo hi : Option Int) (r : DEnv) : R (DV × DEnv) := match a with
  | .scr ns => .ok (.own (.lst (cutL (ns.map PyData.int) lo hi)), r)
  | a => (match pk a r with
    | some d => (match slD d lo hi with
      | some dv => .ok (dv, r)
      | none => .stuck)
    | none => .stuck)
def dSlice (fa : DX) (lo hi : DO) : DX := fun r => (opd fa r).bind fun p => (lo p.2).bind fun q => (hi q.2).bind fun t => slK p.1 q.1 t.1 t.2
theorem de_slice {a : Expr} {lo hi : Option Expr} {fa : DX} {fl fh : DO} {p2 pos : Pos} (ha : DE X W a fa) (hl : DOp X W lo fl) (hh : DOp X W hi fh) : DE X W (.Subscript a (.Slice lo hi none p2) pos) (dSlice fa fl fh) := fun fr T =>
  pe_imp (pe_slice sl_dq (ha fr T) (hl fr T) (hh fr T)) fun s H Q ⟨G, r, rel, o⟩ => by
    refine opd_bindO (g := fun a r1 => (fl r1).bind fun q => (fh q.2).bind fun t => slK a q.1 t.1 t.2) (ocX Q) rel o fun G1 r1 v H1 dv m rel1 ov o1 => ?_
    refine do_bindO (g := fun lo r2 => (fh r2).bind fun t => slK dv lo t.1 t.2) (ocX Q) rel1 o1 fun G2 r2 lo H2 m2 rel2 o2 => ?_
    refine do_bindO (g := fun hi r3 => slK dv lo hi r3) (ocX Q) rel2 o2 fun G3 r3 hi H3 m3 rel3 o3 => ?_
    have ov := (ov.mono m2).mono m3
    have o3 : out X W fr T G3 s (slK dv lo hi r3) Q := o3
    have gen : (∃ d dv', Opr G3 H3 v d ∧ slD d lo hi = some dv' ∧ out X W fr T G3 s (.ok (dv', r3)) Q) → rSlD X.K v lo hi H3 Q := fun ⟨d, dv', h1, h2, h3⟩ => ⟨G3, rel3.sub, .inl ⟨d, dv', h1, h2, fun v' H' q => h3 v' H' (q.post rel3)⟩⟩
    have key : ∀ a : DV, OpV X G3 s v a → out X W fr T G3 s (match pk a r3 with
      | some d => (match slD d lo hi with
        | some dv => .ok (dv, r3)
        | none => .stuck)
      | none => .stuck) Q → rSlD X.K v lo hi H3 Q := fun a oa ho => by
      split at ho
      · rename_i d hd
        split at ho
        · rename_i dv' hop
          exact gen ⟨d, dv', opr_of rel3 oa hd, hop, ho⟩
        · exact ho.elim
      · exact ho.elim
    cases dv with
    | scr ns =>
      obtain ⟨a, rfl, hq⟩ := ov
      exact ⟨G3, rel3.sub, .inr ⟨a, ns, rfl, SqL.mono rel3.sub hq, fun v' H' q => o3 v' H' (q.post rel3)⟩⟩
    | dat d => exact key _ ov o3
    | loc i => exact key _ ov o3
    | fn f => exact key _ ov o3
    | own ob => exact ov.elim
    | pr d ob => exact ov.elim
end
/-! ### what is walked -/
def YD (G H : Hp) (x : V) (H' : Hp) (d : PyData) : Prop := (H' = H ∧ Dq G x d) ∨ ∃ t vs es, x = .ref t ∧ H t = none ∧ H' = upd H t (.tup vs) ∧ DqAll G vs es ∧ d = .tuple es
structure WalkD (G : Hp) (J : It) (ds : List PyData) : Prop where
  goes : ∀ i H, Same G H → i < ds.length → J.go i H
  stops : ∀ H, Same G H → J.stop ds.length H
  yields : ∀ i H x H' d, Same G H → J.yld i H x H' → ds[i]? = some d → YD G H x H' d
abbrev DI := DEnv → R (List PyData × DEnv)
section
variable (X : Cx) (W : WX) (fr : Fm) (T : List (Addr × Ob))
def outI (G : Hp) (s : L2.St) (x : R (List PyData × DEnv)) (Q : It → Hp → Prop) : Prop := match x with
  | .ok p => ∀ J H, (∃ G', Same G G' ∧ Rel X.K X.mg fr T G' p.2 s H ∧ WalkD G' J p.1) → Q J H
  | .exc c fs r => ∀ cls d H, XPost X fr T G s c fs r cls d H → W cls d s H
  | .stuck => False
def tDI (f : DI) : TI := fun s H Q => ∃ G r, Rel X.K X.mg fr T G r s H ∧ outI X W fr T G s (f r) Q
end
def DIt (X : Cx) (W : WX) (tg it : Expr) (f : DI) : Prop := ∀ fr T, PI X tg it (tDI X W fr T f)
theorem pi_imp {X : Cx} {tg e : Expr} {t t' : TI} (h : PI X tg e t) (q : ∀ s H Q, t' s H Q → t s H Q) : PI X tg e t' := ⟨fun pins s σ H Q I w => h.run pins s σ H Q I (q σ H Q w)⟩
section
variable {X : Cx} {W : WX} {fr : Fm} {T : List (Addr × Ob)} {G : Hp} {r : DEnv} {s : L2.St} {H : Hp} {tg : Expr}
def ocI (Q : It → Hp → Prop) : Outc X W fr T s (List PyData × DEnv) := ⟨fun G x => outI X W fr T G s x Q, fun h => h, fun h => h, fun {G G' x} m h => by
  cases x with
  | ok p => exact fun J H ⟨G2, m2, q⟩ => h J H ⟨G2, m.trans m2, q⟩
  | exc c fs r => exact fun cls d H q => h cls d H (q.mono m)
  | stuck => exact h⟩
theorem walkd_list {K : PySem.W.Frag} {a : Addr} {vs : List V} {ds : List PyData} (h : G a = some (.lst vs)) (q : DqAll G vs ds) : WalkD G (Itl K a) ds where
  goes := fun i H m hi => by
    have hi' : i < vs.length := by rw [DqAll.length q]; exact hi
    exact ⟨vs, vs[i], SqL.of (m _ _ h), List.getElem?_eq_getElem hi'⟩
  stops := fun H m => ⟨vs, SqL.of (m _ _ h), by rw [DqAll.length q]; exact Nat.le_refl _⟩
  yields := fun i H x H' d m y e => by
    obtain ⟨v, e1, e2⟩ := DqAll.get q e
    have e3 := y.2 vs (SqL.of (m _ _ h))
    rw [e1] at e3
    cases e3
    exact .inl ⟨y.1, e2⟩
theorem walkd_tup {K : PySem.W.Frag} {a : Addr} {vs : List V} {ds : List PyData} (h : G a = some (.tup vs)) (q : DqAll G vs ds) : WalkD G (Itt K a) ds where
  goes := fun i H m hi => by
    have hi' : i < vs.length := by rw [DqAll.length q]; exact hi
    exact ⟨vs, vs[i], SqT.of (m _ _ h), List.getElem?_eq_getElem hi'⟩
  stops := fun H m => ⟨vs, SqT.of (m _ _ h), by rw [DqAll.length q]; exact Nat.le_refl _⟩
  yields := fun i H x H' d m y e => by
    obtain ⟨v, e1, e2⟩ := DqAll.get q e
    have e3 := y.2 vs (SqT.of (m _ _ h))
    rw [e1] at e3
    cases e3
    exact .inl ⟨y.1, e2⟩
def itL (f : DX) : DI := fun r => (frzE f r).bind fun p => match p.1 with
  | .list ds => .ok (ds, p.2)
  | _ => .stuck
def itT (f : DX) : DI := fun r => (frzE f r).bind fun p => match p.1 with
  | .tuple ds => .ok (ds, p.2)
  | _ => .stuck
def signs (z : Str) : List PyData := z.cps.toList.map fun c => .str ⟨#[c]⟩
def itS (f : DX) : DI := fun r => (frzE f r).bind fun p => match p.1 with
  | .str z => .ok (signs z, p.2)
  | _ => .stuck
theorem di_list {e : Expr} {f : DX} (h : DE X W e f) : DIt X W tg e (itL f) := fun fr T => pi_imp (pi_list (h fr T)) fun s H Q ⟨G, r, rel, o⟩ => by
  refine frz_bindO (g := fun d r1 => match d with
    | .list ds => .ok (ds, r1)
    | _ => .stuck) (ocI Q) rel o fun G1 r1 v H1 d m rel1 q o1 => ?_
  cases d <;> try (exact o1.elim)
  cases q with
  | lst h1 h2 => exact ⟨_, rfl, ⟨_, SqL.of (rel1.sub _ _ h1)⟩, o1 _ H1 ⟨G1, .refl _, rel1, walkd_list h1 h2⟩⟩
theorem di_tup {e : Expr} {f : DX} (h : DE X W e f) : DIt X W tg e (itT f) := fun fr T => pi_imp (pi_tup (h fr T)) fun s H Q ⟨G, r, rel, o⟩ => by
  refine frz_bindO (g := fun d r1 => match d with
    | .tuple ds => .ok (ds, r1)
    | _ => .stuck) (ocI Q) rel o fun G1 r1 v H1 d m rel1 q o1 => ?_
  cases d <;> try (exact o1.elim)
  cases q with
  | tup h1 h2 => exact ⟨_, rfl, ⟨_, SqT.of (rel1.sub _ _ h1)⟩, o1 _ H1 ⟨G1, .refl _, rel1, walkd_tup h1 h2⟩⟩
theorem di_str {e : Expr} {f : DX} (h : DE X W e f) : DIt X W tg e (itS f) := fun fr T => pi_imp (pi_str (h fr T)) fun s H Q ⟨G, r, rel, o⟩ => by
  refine frz_bindO (g := fun d r1 => match d with
    | .str z => .ok (signs z, r1)
    | _ => .stuck) (ocI Q) rel o fun G1 r1 v H1 d m rel1 q o1 => ?_
  cases d <;> try (exact o1.elim)
  rename_i z
  cases q
  have hl : (signs z).length = z.cps.size := by unfold signs; rw [List.length_map, Array.length_toList]
  refine ⟨z, rfl, o1 _ H1 ⟨G1, .refl _, rel1, fun i H m hi => by rw [hl] at hi; exact hi, fun H m => by show z.cps.size ≤ _; rw [hl]; exact Nat.le_refl _, fun i H x H' d m y e => ?_⟩⟩
  obtain ⟨e1, c, e2, e3⟩ := y
  unfold signs at e
  rw [List.getElem?_map, Array.getElem?_toList, e2] at e
  cases e
  subst e3
  exact .inl ⟨e1, .str _⟩
/-! ranges -/
def rangeL (lo : Int) (n : Nat) : List PyData := (List.range n).map fun i => .int (lo + (i : Nat))
theorem rangeL_length (lo : Int) (n : Nat) : (rangeL lo n).length = n := by unfold rangeL; rw [List.length_map, List.length_range]
theorem walkd_range {lo : Int} {n : Nat} : WalkD G (Itr lo n) (rangeL lo n) where
  goes := fun i H m hi => by rw [rangeL_length] at hi; exact hi
  stops := fun H m => by show n ≤ _; rw [rangeL_length]; exact Nat.le_refl _
  yields := fun i H x H' d m y e => by
    obtain ⟨e1, e2⟩ := y
    unfold rangeL at e
    rw [List.getElem?_map] at e
    cases hr : (List.range n)[i]? with
    | none => rw [hr] at e; cases e
    | some j =>
      rw [hr] at e
      obtain ⟨h1, h2⟩ := List.getElem?_eq_some_iff.mp hr
      rw [List.getElem_range] at h2
      subst h2
      cases e
      subst e2
      exact .inl ⟨e1, .int _⟩
def big62 (j : Int) : Bool := decide (-(2 ^ 62) ≤ j) && decide (j < 2 ^ 62)
theorem big62_ok {j : Int} (h : big62 j = true) : -(2 ^ 62) ≤ j ∧ j < 2 ^ 62 := by
  unfold big62 at h
  simpa using h
def rng1 : List PyData → Option (List PyData)
  | [.int j] => if big62 j = true then some (rangeL 0 j.toNat) else none
  | _ => none
def rng2 : List PyData → Option (List PyData)
  | [.int i, .int j] => if big62 i = true ∧ big62 j = true then some (rangeL i (j - i).toNat) else none
  | _ => none
def itR (g : List PyData → Option (List PyData)) (f : DF) : DI := fun r => (f r).bind fun p => match g p.1 with
  | some ds => .ok (ds, p.2)
  | none => .stuck
theorem di_range1 {a : Expr} {f : DF} {p pos : Pos} (hg : Gl X "range") (hm : X.mg "range" = none) (ha : DFs X W [a] f) (hs : starEach [a] X.env = [(false, eval a X.env)]) : DIt X W tg (.Call (.Name "range" p) [a] [] pos) (itR rng1 f) := fun fr T =>
  pi_imp (pi_range1 hg hm (ha fr T) hs) fun s H Q ⟨G, r, rel, o⟩ => by
    refine df_bindO (g := fun ds r1 => match rng1 ds with
      | some es => .ok (es, r1)
      | none => .stuck) (ocI Q) rel o fun G1 r1 vs H1 ds m rel1 q o1 => ?_
    cases q with
    | nil => exact o1.elim
    | cons h t =>
      cases t with
      | cons h' t' =>
        cases h <;> exact o1.elim
      | nil =>
        cases h <;> try (exact o1.elim)
        rename_i j
        have o1 : outI X W fr T G1 s (match (if big62 j = true then some (rangeL 0 j.toNat) else none) with
          | some es => .ok (es, r1)
          | none => .stuck) Q := o1
        by_cases hb : big62 j = true
        · rw [if_pos hb] at o1
          exact ⟨j, rfl, (big62_ok hb).1, (big62_ok hb).2, o1 _ H1 ⟨G1, .refl _, rel1, walkd_range⟩⟩
        · rw [if_neg hb] at o1; exact o1.elim
theorem di_range2 {a b : Expr} {f : DF} {p pos : Pos} (hg : Gl X "range") (hm : X.mg "range" = none) (ha : DFs X W [a, b] f) (hs : starEach [a, b] X.env = [(false, eval a X.env), (false, eval b X.env)]) (hs2 : starEach [b] X.env = [(false, eval b X.env)]) :
    DIt X W tg (.Call (.Name "range" p) [a, b] [] pos) (itR rng2 f) := fun fr T =>
  pi_imp (pi_range2 hg hm (ha fr T) hs hs2) fun s H Q ⟨G, r, rel, o⟩ => by
    refine df_bindO (g := fun ds r1 => match rng2 ds with
      | some es => .ok (es, r1)
      | none => .stuck) (ocI Q) rel o fun G1 r1 vs H1 ds m rel1 q o1 => ?_
    cases q with
    | nil => exact o1.elim
    | cons h t =>
      cases t with
      | nil => cases h <;> exact o1.elim
      | cons h2 t =>
        cases t with
        | cons h' t' => cases h <;> cases h2 <;> exact o1.elim
        | nil =>
          cases h <;> try (exact o1.elim)
          rename_i i
          cases h2 <;> try (exact o1.elim)
          rename_i j
          have o1 : outI X W fr T G1 s (match (if big62 i = true ∧ big62 j = true then some (rangeL i (j - i).toNat) else none) with
            | some es => .ok (es, r1)
            | none => .stuck) Q := o1
          by_cases hb : big62 i = true ∧ big62 j = true
          · rw [if_pos hb] at o1
            exact ⟨i, j, rfl, ⟨(big62_ok hb.1).1, (big62_ok hb.1).2, (big62_ok hb.2).1, (big62_ok hb.2).2⟩, o1 _ H1 ⟨G1, .refl _, rel1, walkd_range⟩⟩
          · rw [if_neg hb] at o1; exact o1.elim
end
end Dn
namespace Dn
open PySem PySem.Spec PyProof.Rows L2
open AutoSeq1 (wpAny_loadPart')
/-! ### enumerate(a tuple) -/
/-- the object that enumerate(v) makes over v's iterator at a -/
def enumObj (a : Addr) : Obj := { cls := .type "enumerate", data := .fields #[.none, .bool false, .ref a, rawInt 0, .none, .none] }
theorem enum_new {v : Value} {o : Obj} {Hh : Heap → Prop} (B : Begins v o Hh) : Meets (Builtin.«enumerate.__new__» ⟨[.type "enumerate", v], []⟩) (fun _ R s => Hh s.heap ∧
    R (.ok (.ret (.ref (s.heap.push o).objs.size))) { s with heap := (s.heap.push o).push (enumObj s.heap.objs.size) }) := by
  refine .of_wp fun prog w A R s h => ?_
  obtain ⟨hp, g, d, tk, os⟩ := s
  obtain ⟨hb, hr⟩ := h
  have sub := sub_enumerate
  have it : ∀ {A' : Around} {E : Value → Shared → Prop} {Q : Value → Shared → Prop}, Q (.ref hp.objs.size) ⟨hp.push o, g, d, tk, os⟩ → wpAny (model prog w) A' (pyIter v) Q E ⟨hp, g, d, tk, os⟩ := fun q => B.iter prog w _ _ _ _ hb q
  wp_walk using it
  refine wpAny_stack_any fun st => wpAny_pure ?_
  split
  · rename_i c _ _ _ _ _
    cases (c == Value.type "enumerate") <;> (wp_walk using it; exact ⟨_, rfl, hr⟩)
  · wp_walk using it
    exact ⟨_, rfl, hr⟩
theorem call_enumT {prog : Program} {w : World} {A : Around} {E : Value → Shared → Prop} {s : Shared} {l : Addr} {items : Array Value} {Q : Value → Shared → Prop} (hL : s.heap.IsTuple l items)
    (h : ∀ h', IsEnum h' (s.heap.objs.size + 1) s.heap.objs.size 0 .none → h'.IsTupleIter s.heap.objs.size l 0 → (∀ b o, s.heap.get? b = some o → h'.get? b = some o) → Q (.ref (s.heap.objs.size + 1)) { s with heap := h' }) :
    wpAny (model prog w) A (call (.type "enumerate") [.ref l]) Q E s := by
  refine callType_new F.called_enumerate (by decide) (F.typeCall_enumerate_1 _) (F.newCall_enumerate_1 _) (fun obj => F.args_object_init_2 obj _) F.entry_enumerate_new (enum_new (begins_tuple l items)) ⟨hL, ?_⟩
  generalize ho : ({ cls := .type "tuple_iterator", data := .fields #[.ref l, .int 0 0] } : Obj) = o
  have sz : (s.heap.push o).objs.size = s.heap.objs.size + 1 := Heap.size_push ..
  have he : IsEnum ((s.heap.push o).push (enumObj s.heap.objs.size)) (s.heap.objs.size + 1) s.heap.objs.size 0 .none := by
    have q := Heap.get?_push_size (s.heap.push o) (o := enumObj s.heap.objs.size) rfl
    rw [sz] at q
    exact q
  show _ ∧ _
  rw [sz]
  refine ⟨⟨_, he, rfl⟩, h _ he ?_ fun b u e => Heap.get?_push_of_some _ (Heap.get?_push_of_some _ e)⟩
  subst ho
  exact ⟨_, Heap.get?_push_of_some _ (Heap.get?_push_size _ rfl), rfl, rfl⟩
def ItE (K : PySem.W.Frag) (a : Addr) : It where
  go := fun i H => ∃ (xs : List V) (x : V), SqT K H a xs ∧ xs[i]? = some x
  yld := fun i H v H' => ∃ t x, v = .ref t ∧ H t = none ∧ H' = upd H t (.tup [.int (i : Nat), x]) ∧ ∀ xs, SqT K H a xs → xs[i]? = some x
  stop := fun i H => ∃ xs : List V, SqT K H a xs ∧ xs.length = i
theorem turn_enumT {P : Program} {w : World} {K : PySem.W.Frag} {elts : List Expr} {kk : Nat} {tpos : Pos} (a e it : Addr) :
    Turn P w K (.Tuple elts kk tpos) (ItE K a) [e, it] e (fun i h => (∃ old, IsEnum h e it ((i : Nat) : Int) old) ∧ h.IsTupleIter it a i ∧ e ≠ it) where
  mem := List.mem_cons_self
  obj := fun i h st b hb => by
    obtain ⟨⟨old, he⟩, ⟨o, ho, _, hd⟩, _⟩ := st
    rcases List.mem_cons.mp hb with rfl | hb
    · exact ⟨_, he, fun v q => nomatch q⟩
    · rw [List.mem_singleton.mp hb]
      exact ⟨o, ho, fun v q => by rw [hd] at q; cases q⟩
  keep := fun i h h' st k => by
    obtain ⟨⟨old, he⟩, hi, ne⟩ := st
    exact ⟨⟨old, k e List.mem_cons_self _ he⟩, hi.at fun o q => k it (List.mem_cons_of_mem _ List.mem_cons_self) o q, ne⟩
  item := by
    intro X hP hw hK hc i pins s σ H E I hf st hg
    subst hP hw hK
    obtain ⟨⟨old, he⟩, hit, ne⟩ := st
    obtain ⟨xs, x, hq, hx⟩ := hg
    obtain ⟨its, rv, p, hz⟩ := I.tuple hq
    obtain ⟨u, hu, ru⟩ := rv.get hx
    obtain ⟨oa, ha, ca, na, da⟩ := id p
    obtain ⟨oi, hoi, ci, di⟩ := id hit
    have ai : a ≠ it := fun z => by rw [z, hoi] at ha; cases ha; rw [di] at da; cases da
    have ae : a ≠ e := fun z => by
      have he' : s.heap.get? e = some _ := he
      rw [z, he'] at ha
      cases ha
      injection ca with ca
      exact absurd ca (by decide)
    have le : e < s.heap.objs.size := Heap.lt_size he
    have li : it < s.heap.objs.size := Heap.lt_size hoi
    have hlt : i < its.toArray.size := by
      have := (List.getElem?_eq_some_iff.mp hu).1
      simpa using this
    refine wpAny_pyNext_enum_itemD (Draws.tuple (prog := X.prog) (w := X.w) (A := X.A.in1) (show X.A.in1.handled = none from I.ok.hd hc) it a ai its.toArray) he ⟨hit, p⟩ hlt ne (by simp [ne, Ne.symm ae]) fun y h' tk hy ho hst hT hsz hk => ?_
    have hyu : y = u := by
      have e1 : its.toArray[i]? = some u := by simpa using hu
      rw [hy] at e1
      exact Option.some.inj e1
    subst hyu
    refine ⟨_, rfl, wpAny_letOwnedTupleGo_enum (s := { s with heap := h', toks := tk + 1 }) ho fun h'' he' sb => ?_⟩
    have hT2 : h''.get? s.heap.objs.size = some { cls := .type "tuple", data := .seq #[.int i tk, y] } := (sb.2 _ (Nat.ne_of_gt le)).trans hT
    have I1 : Inv X pins σ (upd H s.heap.objs.size (.tup [.int (i : Nat), x])) { s with heap := h'', toks := tk + 1 } := by
      refine I.turnedNew (ch := [e, it]) (fun b ob hb q => ?_) hf (Nat.le_refl _) ⟨by show 2 ≤ sizeLine; decide, [.int i tk, y], .cons ⟨_, rfl⟩ (.cons ru .nil), ⟨_, hT2, rfl, _, rfl⟩⟩
      have be : b ≠ e := fun z => hb (by rw [z]; exact List.mem_cons_self)
      have bi : b ≠ it := fun z => hb (by rw [z]; exact List.mem_cons_of_mem _ List.mem_cons_self)
      exact (sb.2 b be).trans (hk b ob be bi q)
    refine ⟨.ref s.heap.objs.size, _, I1, rfl, ⟨_, x, rfl, I.hok.fresh (Nat.le_refl _), rfl, fun ys hy' => by rw [I.tuple_inj hy' hq]; exact hx⟩, ⟨⟨y, ?_⟩, hst.1.at fun o q => (sb.2 it (Ne.symm ne)).trans q, ne⟩, fun b hb => ?_⟩
    · rw [show ((i + 1 : Nat) : Int) = (i : Int) + 1 by omega]
      exact he'
    · have hb' : b < s.heap.objs.size := by
        rcases List.mem_cons.mp hb with z | z
        · rw [z]; exact le
        · rw [List.mem_singleton.mp z]; exact li
      rw [upd_ne (Nat.ne_of_lt hb')]
      exact (hf b hb).1
  done := by
    intro X hP hw hK hc i pins s σ H E I hf st hg
    subst hP hw hK
    obtain ⟨⟨old, he⟩, hit, ne⟩ := st
    obtain ⟨xs, hq, hx⟩ := hg
    obtain ⟨its, rv, p, hz⟩ := I.tuple hq
    obtain ⟨oa, ha, ca, na, da⟩ := id p
    obtain ⟨oi, hoi, ci, di⟩ := id hit
    have ai : a ≠ it := fun z => by rw [z, hoi] at ha; cases ha; rw [di] at da; cases da
    obtain ⟨f0, f1, f2, f3, f4, f5⟩ := hf it (List.mem_cons_of_mem _ List.mem_cons_self)
    have hn : its.toArray.size = i := by rw [List.size_toArray, ← rv.length]; exact hx
    refine wpAny_pyNext_enum_endD (Draws.tuple (prog := X.prog) (w := X.w) (A := X.A.in1) (show X.A.in1.handled = none from I.ok.hd hc) it a ai its.toArray) he ?_ fun h' eb => ⟨rfl, I.turned (t' := s.toks) (fun b o hb q => eb b o hb q) f0 f1 f3 f4 f5⟩
    rw [hn]
    exact ⟨hit, p⟩
  self := fun A i s Q E st h => wpAny_pyIter_enum st.1.choose_spec h
section
variable {X : Cx} {W : WX}
def iEnT (K : PySem.W.Frag) (ta : TA) : TI := fun σ H R => ta σ H fun vs H1 => ∃ (a : Addr) (xs : List V), vs = [.ref a] ∧ SqT K H1 a xs ∧ R (ItE K a) H1
theorem pi_enumT {e : Expr} {ta : TA} {p pos tpos : Pos} {elts : List Expr} {kk : Nat} (hg : Gl X "enumerate") (hm : X.mg "enumerate" = none) (ha : PA X [e] ta) (hs : starEach [e] X.env = [(false, eval e X.env)]) :
    PI X (.Tuple elts kk tpos) (.Call (.Name "enumerate" p) [e] [] pos) (iEnT X.K ta) := by
  refine ⟨fun pins s σ H R I h => ?_⟩
  refine Call_ (ld_blt I hg hm boot_enumerate (PyProof.Rows.callWith_type1 (thn (ha.run pos pins s σ H _ I h) fun us s1 ⟨vs, H1, I1, r1, q1⟩ => ?_) hs rfl))
  obtain ⟨a, xs, ev, hq, q⟩ := q1
  subst ev
  obtain ⟨u, rfl, ru⟩ := Vals.one r1
  obtain rfl : u = .ref a := ru
  obtain ⟨its, rv, pl, hz⟩ := I1.tuple hq
  refine call_enumT (show s1.heap.IsTuple a its.toArray from pl) fun h' he hit hk => wpAny_pyIter_enum he ?_
  have I2 : Inv X pins σ H1 { s1 with heap := h' } := I1.kept (t' := s1.toks) hk
  refine ⟨s1.heap.objs.size + 1, [s1.heap.objs.size + 1, s1.heap.objs.size], _, _, H1, rfl, I2, turn_enumT a (s1.heap.objs.size + 1) s1.heap.objs.size, ⟨⟨.none, he⟩, hit, Nat.succ_ne_self _⟩, fun b hb => ?_, q⟩
  have le : s1.heap.objs.size ≤ b := by
    rcases List.mem_cons.mp hb with z | z
    · rw [z]; exact Nat.le_succ _
    · rw [List.mem_singleton.mp z]; exact Nat.le_refl _
  exact I1.fpOk le (I1.hok.fresh le)
/-! enumerate, zip by data -/
def enumL : Nat → List PyData → List PyData
  | _, [] => []
  | i, d :: ds => .tuple [.int (i : Nat), d] :: enumL (i + 1) ds
theorem enumL_length : ∀ (k : Nat) (ds : List PyData), (enumL k ds).length = ds.length
  | _, [] => rfl
  | k, d :: ds => by show (enumL (k + 1) ds).length + 1 = ds.length + 1; rw [enumL_length]
theorem enumL_get : ∀ (k : Nat) (ds : List PyData) (i : Nat) (d : PyData), (enumL k ds)[i]? = some d → ∃ e, ds[i]? = some e ∧ d = .tuple [.int ((k + i : Nat) : Int), e]
  | _, [], i, d, h => by simp [enumL] at h
  | k, x :: ds, 0, d, h => by
    simp [enumL] at h
    exact ⟨x, rfl, by rw [← h]; rfl⟩
  | k, x :: ds, i + 1, d, h => by
    simp only [enumL, List.getElem?_cons_succ] at h
    obtain ⟨e, h1, h2⟩ := enumL_get (k + 1) ds i d h
    exact ⟨e, by simpa using h1, by rw [h2, show k + 1 + i = k + (i + 1) by omega]⟩
def itEn (ok : PyData → Option (List PyData)) (f : DF) : DI := fun r => (f r).bind fun p => match p.1 with
  | [d] => (match ok d with
    | some ds => .ok (enumL 0 ds, p.2)
    | none => .stuck)
  | _ => .stuck
def onT : PyData → Option (List PyData)
  | .tuple ds => some ds
  | _ => none
def onL : PyData → Option (List PyData)
  | .list ds => some ds
  | _ => none
theorem di_enumT {e : Expr} {f : DF} {p pos tpos : Pos} {elts : List Expr} {kk : Nat} (hg : Gl X "enumerate") (hm : X.mg "enumerate" = none) (ha : DFs X W [e] f) (hs : starEach [e] X.env = [(false, eval e X.env)]) :
    DIt X W (.Tuple elts kk tpos) (.Call (.Name "enumerate" p) [e] [] pos) (itEn onT f) := fun fr T =>
  pi_imp (pi_enumT hg hm (ha fr T) hs) fun s H Q ⟨G, r, rel, o⟩ => by
    refine df_bindO (g := fun ds r1 => match ds with
      | [d] => (match onT d with
        | some es => .ok (enumL 0 es, r1)
        | none => .stuck)
      | _ => .stuck) (ocI Q) rel o fun G1 r1 vs H1 ds m rel1 q o1 => ?_
    cases q with
    | nil => exact o1.elim
    | cons h t =>
      cases t with
      | cons _ _ => exact o1.elim
      | nil =>
        cases h <;> try (exact o1.elim)
        rename_i a xs es h2 h1
        refine ⟨a, xs, rfl, SqT.of (rel1.sub _ _ h2), o1 _ H1 ⟨G1, .refl _, rel1, fun i H m hi => ?_, fun H m => ⟨xs, SqT.of (m _ _ h2), by rw [enumL_length]; exact DqAll.length h1⟩, fun i H x H' d m y e => ?_⟩⟩
        · rw [enumL_length] at hi
          have hi' : i < xs.length := by rw [DqAll.length h1]; exact hi
          exact ⟨xs, xs[i], SqT.of (m _ _ h2), List.getElem?_eq_getElem hi'⟩
        · obtain ⟨t, x', e1, e2, e3, e4⟩ := y
          obtain ⟨de, h3, rfl⟩ := enumL_get 0 _ _ _ e
          obtain ⟨w, h4, h5⟩ := DqAll.get h1 h3
          have e5 := e4 xs (SqT.of (m _ _ h2))
          rw [h4] at e5
          cases e5
          rw [Nat.zero_add]
          exact .inr ⟨t, _, _, e1, e2, e3, .cons (.int _) (.cons h5 .nil), rfl⟩
theorem di_enumL {e : Expr} {f : DF} {p pos tpos : Pos} {elts : List Expr} {kk : Nat} (hg : Gl X "enumerate") (hm : X.mg "enumerate" = none) (ha : DFs X W [e] f) (hs : starEach [e] X.env = [(false, eval e X.env)]) :
    DIt X W (.Tuple elts kk tpos) (.Call (.Name "enumerate" p) [e] [] pos) (itEn onL f) := fun fr T =>
  pi_imp (pi_enum hg hm (ha fr T) hs) fun s H Q ⟨G, r, rel, o⟩ => by
    refine df_bindO (g := fun ds r1 => match ds with
      | [d] => (match onL d with
        | some es => .ok (enumL 0 es, r1)
        | none => .stuck)
      | _ => .stuck) (ocI Q) rel o fun G1 r1 vs H1 ds m rel1 q o1 => ?_
    cases q with
    | nil => exact o1.elim
    | cons h t =>
      cases t with
      | cons _ _ => exact o1.elim
      | nil =>
        cases h <;> try (exact o1.elim)
        rename_i a xs es h2 h1
        refine ⟨a, xs, rfl, SqL.of (rel1.sub _ _ h2), o1 _ H1 ⟨G1, .refl _, rel1, fun i H m hi => ?_, fun H m => ⟨xs, SqL.of (m _ _ h2), by rw [enumL_length, DqAll.length h1]; exact Nat.le_refl _⟩, fun i H x H' d m y e => ?_⟩⟩
        · rw [enumL_length] at hi
          have hi' : i < xs.length := by rw [DqAll.length h1]; exact hi
          exact ⟨xs, xs[i], SqL.of (m _ _ h2), List.getElem?_eq_getElem hi'⟩
        · obtain ⟨t, x', e1, e2, e3, e4⟩ := y
          obtain ⟨de, h3, rfl⟩ := enumL_get 0 _ _ _ e
          obtain ⟨w, h4, h5⟩ := DqAll.get h1 h3
          have e5 := e4 xs (SqL.of (m _ _ h2))
          rw [h4] at e5
          cases e5
          rw [Nat.zero_add]
          exact .inr ⟨t, _, _, e1, e2, e3, .cons (.int _) (.cons h5 .nil), rfl⟩
def zipL : List PyData → List PyData → List PyData
  | x :: xs, y :: ys => .tuple [x, y] :: zipL xs ys
  | _, _ => []
theorem zipL_length : ∀ xs ys : List PyData, (zipL xs ys).length = min xs.length ys.length
  | [], ys => by simp [zipL]
  | _ :: _, [] => by simp [zipL]
  | x :: xs, y :: ys => by
    show (zipL xs ys).length + 1 = min (xs.length + 1) (ys.length + 1)
    rw [zipL_length]
    omega
theorem zipL_get : ∀ (xs ys : List PyData) (i : Nat) (d : PyData), (zipL xs ys)[i]? = some d → ∃ a b, xs[i]? = some a ∧ ys[i]? = some b ∧ d = .tuple [a, b]
  | [], _, i, d, h => by simp [zipL] at h
  | _ :: _, [], i, d, h => by simp [zipL] at h
  | x :: xs, y :: ys, 0, d, h => by
    simp [zipL] at h
    exact ⟨x, y, rfl, rfl, h.symm⟩
  | x :: xs, y :: ys, i + 1, d, h => by
    simp only [zipL, List.getElem?_cons_succ] at h
    obtain ⟨a, b, h1, h2, h3⟩ := zipL_get xs ys i d h
    exact ⟨a, b, by simpa using h1, by simpa using h2, h3⟩
def itZ (f : DF) : DI := fun r => (f r).bind fun p => match p.1 with
  | [.list xs, .list ys] => .ok (zipL xs ys, p.2)
  | [.tuple xs, .tuple ys] => .ok (zipL xs ys, p.2)
  | _ => .stuck
theorem di_zip {e e2 : Expr} {f : DF} {p pos tpos : Pos} {elts : List Expr} {kk : Nat} (hg : Gl X "zip") (hm : X.mg "zip" = none) (ha : DFs X W [e, e2] f) (hs : starEach [e, e2] X.env = (false, eval e X.env) :: starEach [e2] X.env) (hpl : (backTo pos (starEach [e2] X.env)).any (·.1) = false) :
    DIt X W (.Tuple elts kk tpos) (.Call (.Name "zip" p) [e, e2] [] pos) (itZ f) := fun fr T =>
  pi_imp (RZ.pi_zipA hg hm (ha fr T) hs hpl) fun s H Q ⟨G, r, rel, o⟩ => by
    refine df_bindO (g := fun ds r1 => match ds with
      | [.list xs, .list ys] => .ok (zipL xs ys, r1)
      | [.tuple xs, .tuple ys] => .ok (zipL xs ys, r1)
      | _ => .stuck) (ocI Q) rel o fun G1 r1 vs H1 ds m rel1 q o1 => ?_
    cases q with
    | nil => exact o1.elim
    | cons h t =>
      cases t with
      | nil => cases h <;> exact o1.elim
      | cons h' t =>
        cases t with
        | cons _ _ => cases h <;> cases h' <;> exact o1.elim
        | nil =>
          cases h <;> cases h' <;> try (exact o1.elim)
          · rename_i a xs es h2 h1 b ys fs h4 h3
            refine ⟨a, b, xs, ys, rfl, .inl ⟨SqL.of (rel1.sub _ _ h2), SqL.of (rel1.sub _ _ h4), o1 _ H1 ⟨G1, .refl _, rel1, fun i H m hi => ?_, fun H m => ?_, fun i H x H' d m y e => ?_⟩⟩⟩
            · rw [zipL_length] at hi
              have g1 : i < xs.length := by rw [DqAll.length h1]; omega
              have g2 : i < ys.length := by rw [DqAll.length h3]; omega
              exact ⟨xs, ys, xs[i], ys[i], SqL.of (m _ _ h2), SqL.of (m _ _ h4), List.getElem?_eq_getElem g1, List.getElem?_eq_getElem g2⟩
            · refine ⟨xs, ys, SqL.of (m _ _ h2), SqL.of (m _ _ h4), ?_⟩
              rw [zipL_length, DqAll.length h1, DqAll.length h3]
              omega
            · obtain ⟨t, x1, x2, e1, e2, e3, e4, e5⟩ := y
              obtain ⟨d1, d2, g1, g2, rfl⟩ := zipL_get _ _ _ _ e
              obtain ⟨w1, k1, k2⟩ := DqAll.get h1 g1
              obtain ⟨w2, k3, k4⟩ := DqAll.get h3 g2
              have e6 := e4 xs (SqL.of (m _ _ h2))
              have e7 := e5 ys (SqL.of (m _ _ h4))
              rw [k1] at e6
              rw [k3] at e7
              cases e6
              cases e7
              exact .inr ⟨t, _, _, e1, e2, e3, .cons k2 (.cons k4 .nil), rfl⟩
          · rename_i a xs es h2 h1 b ys fs h4 h3
            refine ⟨a, b, xs, ys, rfl, .inr ⟨SqT.of (rel1.sub _ _ h2), SqT.of (rel1.sub _ _ h4), o1 _ H1 ⟨G1, .refl _, rel1, fun i H m hi => ?_, fun H m => ?_, fun i H x H' d m y e => ?_⟩⟩⟩
            · rw [zipL_length] at hi
              have g1 : i < xs.length := by rw [DqAll.length h1]; omega
              have g2 : i < ys.length := by rw [DqAll.length h3]; omega
              exact ⟨xs, ys, xs[i], ys[i], SqT.of (m _ _ h2), SqT.of (m _ _ h4), List.getElem?_eq_getElem g1, List.getElem?_eq_getElem g2⟩
            · refine ⟨xs, ys, SqT.of (m _ _ h2), SqT.of (m _ _ h4), ?_⟩
              rw [zipL_length, DqAll.length h1, DqAll.length h3]
              omega
            · obtain ⟨t, x1, x2, e1, e2, e3, e4, e5⟩ := y
              obtain ⟨d1, d2, g1, g2, rfl⟩ := zipL_get _ _ _ _ e
              obtain ⟨w1, k1, k2⟩ := DqAll.get h1 g1
              obtain ⟨w2, k3, k4⟩ := DqAll.get h3 g2
              have e6 := e4 xs (SqT.of (m _ _ h2))
              have e7 := e5 ys (SqT.of (m _ _ h4))
              rw [k1] at e6
              rw [k3] at e7
              cases e6
              cases e7
              exact .inr ⟨t, _, _, e1, e2, e3, .cons k2 (.cons k4 .nil), rfl⟩
end
end Dn
namespace Dn
open PySem PySem.Spec PyProof.Rows L2
/-! ### slots forgotten and brought back -/
def wipeD (r : DEnv) : List Nat → DEnv
  | [] => r
  | v :: vs => (wipeD r vs).set v none
def restoreD : List Nat → DEnv → DEnv → DEnv
  | [], _, r2 => r2
  | v :: vs, r, r2 => (restoreD vs r r2).set v (r[v]?.getD none)
def ownFree (r : DEnv) (vs : List Nat) : Bool := vs.all fun i => match r[i]? with
  | some (some (.own _ _)) => false
  | _ => true
theorem wipeD_length (r : DEnv) : ∀ vs : List Nat, (wipeD r vs).length = r.length
  | [] => rfl
  | v :: vs => by unfold wipeD; rw [List.length_set, wipeD_length r vs]
theorem wipeD_some {r : DEnv} {i : Nat} {x : Sl} : ∀ {vs : List Nat}, (wipeD r vs)[i]? = some (some x) → r[i]? = some (some x) ∧ i ∉ vs
  | [], h => ⟨h, List.not_mem_nil⟩
  | v :: vs, h => by
    rcases set_some h with ⟨_, z, _⟩ | ⟨ne, z⟩
    · cases z
    · obtain ⟨h1, h2⟩ := wipeD_some z
      exact ⟨h1, fun hm => (List.mem_cons.mp hm).elim ne h2⟩
theorem wipe_at {σ : L2.St} {i : Nat} : ∀ {vs : List Nat}, (wipe σ vs)[i]? = if i ∈ vs then (σ[i]?).map (fun _ => none) else σ[i]?
  | [] => by rw [if_neg List.not_mem_nil]; rfl
  | v :: vs => by
    have ih := wipe_at (σ := σ) (i := i) (vs := vs)
    show ((wipe σ vs).set v none)[i]? = _
    by_cases e : v = i
    · subst e
      rw [if_pos List.mem_cons_self]
      by_cases hl : v < σ.length
      · rw [List.getElem?_set_self (by rw [wipe_length]; exact hl), List.getElem?_eq_getElem hl]
        rfl
      · rw [List.getElem?_eq_none (by rw [List.length_set, wipe_length]; omega), List.getElem?_eq_none (by omega)]
        rfl
    · rw [List.getElem?_set_ne e, ih]
      by_cases hm : i ∈ vs
      · rw [if_pos hm, if_pos (List.mem_cons_of_mem _ hm)]
      · rw [if_neg hm, if_neg (fun z => (List.mem_cons.mp z).elim (fun q => e q.symm) hm)]
theorem wipe_set {σ : L2.St} {i : Nat} {x : Option V} {vs : List Nat} (h : i ∈ vs) : wipe (σ.set i x) vs = wipe σ vs := by
  apply List.ext_getElem?
  intro j
  rw [wipe_at, wipe_at]
  by_cases hj : j ∈ vs
  · rw [if_pos hj, if_pos hj]
    by_cases e : i = j
    · subst e
      by_cases hl : i < σ.length
      · rw [List.getElem?_set_self hl, List.getElem?_eq_getElem hl]; rfl
      · rw [List.getElem?_eq_none (by rw [List.length_set]; omega), List.getElem?_eq_none (by omega)]
    · rw [List.getElem?_set_ne e]
  · rw [if_neg hj, if_neg hj, List.getElem?_set_ne (fun z => hj (by rw [← z]; exact h))]
theorem wipe_wipe {σ : L2.St} {vs : List Nat} : wipe (wipe σ vs) vs = wipe σ vs := by
  apply List.ext_getElem?
  intro j
  rw [wipe_at, wipe_at]
  by_cases hj : j ∈ vs
  · rw [if_pos hj, if_pos hj]
    cases σ[j]? <;> rfl
  · rw [if_neg hj, if_neg hj]
theorem restoreD_length (r r2 : DEnv) : ∀ vs : List Nat, (restoreD vs r r2).length = r2.length
  | [] => rfl
  | v :: vs => by unfold restoreD; rw [List.length_set, restoreD_length r r2 vs]
theorem restoreD_some {r r2 : DEnv} {i : Nat} {x : Sl} : ∀ {vs : List Nat}, (restoreD vs r r2)[i]? = some (some x) → (i ∈ vs ∧ r[i]? = some (some x)) ∨ (i ∉ vs ∧ r2[i]? = some (some x))
  | [], h => .inr ⟨List.not_mem_nil, h⟩
  | v :: vs, h => by
    rcases set_some h with ⟨rfl, z, _⟩ | ⟨ne, z⟩
    · refine .inl ⟨List.mem_cons_self, ?_⟩
      cases hr : r[i]? with
      | none => rw [hr] at z; cases z
      | some o => rw [hr] at z; rw [z]; rfl
    · rcases restoreD_some z with ⟨h1, h2⟩ | ⟨h1, h2⟩
      · exact .inl ⟨List.mem_cons_of_mem _ h1, h2⟩
      · exact .inr ⟨fun hm => (List.mem_cons.mp hm).elim ne h1, h2⟩
section
variable {K : PySem.W.Frag} {mg : Str → Option Value} {fr : Fm} {T T' : List (Addr × Ob)} {G G2 : Hp} {r r2 : DEnv} {s : L2.St} {H H2 : Hp}
theorem Rel.wipe (h : Rel K mg fr T G r s H) (vs : List Nat) : Rel K mg fr T G (wipeD r vs) (L2.wipe s vs) H := by
  have ss : ∀ {i : Nat}, i ∉ vs → (L2.wipe s vs)[i]? = s[i]? := fun hi => by rw [wipe_at, if_neg hi]
  refine ⟨h.sub, h.g0, h.new, h.keep, h.exs, by rw [wipeD_length, wipe_length]; exact h.len, fun i sl z => ?_, fun i b o a z z2 => ?_, fun i j b o b' o' a z1 z2 z3 z4 => ?_, h.tmp, fun t ht i b o z => ?_, h.tnd⟩
  · obtain ⟨z, n⟩ := wipeD_some z
    rw [ss n]; exact h.slot i sl z
  · obtain ⟨z, n⟩ := wipeD_some z
    rw [ss n] at z2; exact h.home i b o a z z2
  · obtain ⟨z1, n1⟩ := wipeD_some z1
    obtain ⟨z3, n3⟩ := wipeD_some z3
    rw [ss n1] at z2; rw [ss n3] at z4
    exact h.apart i j b o b' o' a z1 z2 z3 z4
  · obtain ⟨z, n⟩ := wipeD_some z
    rw [ss n]; exact h.tapart t ht i b o z
theorem Rel.restore (h : Rel K mg fr T G r s H) {vs : List Nat} (hf : ownFree r vs = true) (m : Same G G2) (h2 : Rel K mg fr T' G2 r2 (L2.wipe s vs) H2) : Rel K mg fr T' G2 (restoreD vs r r2) s H2 := by
  have ss : ∀ {i : Nat}, i ∉ vs → (L2.wipe s vs)[i]? = s[i]? := fun hi => by rw [wipe_at, if_neg hi]
  have no : ∀ {i b o}, i ∈ vs → r[i]? ≠ some (some (Sl.own b o)) := fun {i b o} hi z => by
    have q := List.all_eq_true.mp hf i hi
    rw [z] at q
    cases q
  have ow : ∀ {i b o}, (restoreD vs r r2)[i]? = some (some (Sl.own b o)) → i ∉ vs ∧ r2[i]? = some (some (Sl.own b o)) := fun {i b o} z => by
    rcases restoreD_some z with ⟨h1, h3⟩ | z
    · exact absurd h3 (no h1)
    · exact z
  refine ⟨h2.sub, h2.g0, h2.new, h2.keep, h2.exs, ?_, fun i sl z => ?_, fun i b o a z z2 => ?_, fun i j b o b' o' a z1 z2 z3 z4 => ?_, h2.tmp, fun t ht i b o z => ?_, h2.tnd⟩
  · rw [restoreD_length, h2.len, wipe_length]
  · rcases restoreD_some z with ⟨h1, h3⟩ | ⟨h1, h3⟩
    · obtain ⟨v, ev, q⟩ := h.slot i sl h3
      refine ⟨v, ev, ?_⟩
      cases sl with
      | dat d => exact Dq.mono m q
      | own b o => exact absurd h3 (no h1)
      | fn f => exact q
      | scr ns => obtain ⟨a, e, q⟩ := q; exact ⟨a, e, SqL.mono m q⟩
    · obtain ⟨v, ev, q⟩ := h2.slot i sl h3
      rw [ss h1] at ev
      exact ⟨v, ev, q⟩
  · obtain ⟨n, z⟩ := ow z
    exact h2.home i b o a z (by rw [ss n]; exact z2)
  · obtain ⟨n1, z1⟩ := ow z1
    obtain ⟨n3, z3⟩ := ow z3
    exact h2.apart i j b o b' o' a z1 (by rw [ss n1]; exact z2) z3 (by rw [ss n3]; exact z4)
  · obtain ⟨n, z⟩ := ow z
    have q := h2.tapart t ht i b o z
    rw [ss n] at q
    exact q
end
/-! ### targets -/
structure Pat where
  f : PyData → DEnv → Option DEnv
  sl : List Nat
def pName (i : Nat) : Pat := ⟨fun d r => some (r.set i (some (.dat d))), [i]⟩
structure Pats where
  f : List PyData → DEnv → Option DEnv
  sl : List Nat
  n : Nat
def psNil : Pats := ⟨fun ds r => match ds with
  | [] => some r
  | _ => none, [], 0⟩
def psCons (p : Pat) (ps : Pats) : Pats := ⟨fun ds r => match ds with
  | d :: ds => (match p.f d r with
    | some r1 => ps.f ds r1
    | none => none)
  | [] => none, p.sl ++ ps.sl, ps.n + 1⟩
def pTup (ps : Pats) : Pat := ⟨fun d r => match d with
  | .tuple ds => if ds.length = ps.n then ps.f ds r else none
  | _ => none, ps.sl⟩
section
variable (X : Cx) (fr : Fm) (T : List (Addr × Ob))
def GPost (p : List Nat) (G : Hp) (s : L2.St) (r' : DEnv) (H : Hp) (Q : L2.St → Hp → Prop) : Prop := ∀ s', Rel X.K X.mg fr T G r' s' H → (∀ vs : List Nat, (∀ i, i ∈ p → i ∈ vs) → wipe s' vs = wipe s vs) → Q s' H
def tDG (p : Pat) : TG := fun v s H Q => ∃ G r d r', Rel X.K X.mg fr T G r s H ∧ Dq G v d ∧ p.f d r = some r' ∧ GPost X fr T p.sl G s r' H Q
def tDGs (p : Pats) : TGs := fun vs s H Q => ∃ G r ds r', Rel X.K X.mg fr T G r s H ∧ DqAll G vs ds ∧ p.f ds r = some r' ∧ GPost X fr T p.sl G s r' H Q
end
def DGt (X : Cx) (tg : Expr) (p : Pat) : Prop := ∀ fr T, PG X tg (tDG X fr T p)
def DGts (X : Cx) (tgs : List Expr) (p : Pats) : Prop := ∀ fr T, PGs X tgs (tDGs X fr T p)
theorem pg_imp {X : Cx} {e : Expr} {t t' : TG} (h : PG X e t) (q : ∀ v s H Q, t' v s H Q → t v s H Q) : PG X e t' := ⟨fun pins s σ H v u Q I r w => h.run pins s σ H v u Q I r (q v σ H Q w)⟩
theorem pgs_imp {X : Cx} {e : List Expr} {t t' : TGs} (h : PGs X e t) (q : ∀ v s H Q, t' v s H Q → t v s H Q) : PGs X e t' := ⟨fun pins s σ H v u Q I r w => h.run pins s σ H v u Q I r (q v σ H Q w)⟩
section
variable {X : Cx}
theorem dg_name {i : Nat} {x : Str} {pos : Pos} (hN : X.N.Nodup) (hi : X.N[i]? = some x) (hx : Loc X.env.scope x) (hf : X.fn x = true ∨ X.env.scope.names.lookup x = some .local) : DGt X (.Name x pos) (pName i) := fun fr T =>
  pg_imp (pg_name hN hi hx hf) fun v s H Q ⟨G, r, d, r', rel, q, e, k⟩ => by
    cases e
    exact k _ (rel.setDat q) fun vs hv => wipe_set (hv i List.mem_cons_self)
theorem dgs_nil : DGts X [] psNil := fun fr T => pgs_imp pgs_nil fun vs s H Q ⟨G, r, ds, r', rel, q, e, k⟩ => by
  cases q with
  | nil => cases e; exact ⟨rfl, k _ rel fun _ _ => rfl⟩
  | cons _ _ => cases e
theorem dgs_cons {e : Expr} {es : List Expr} {p : Pat} {ps : Pats} (h1 : DGt X e p) (h2 : DGts X es ps) (hs : (assignEach (e :: es) X.env).map (·.2) = assign e X.env :: (assignEach es X.env).map (·.2)) : DGts X (e :: es) (psCons p ps) := fun fr T =>
  pgs_imp (pgs_cons (h1 fr T) (h2 fr T) hs) fun vs s H Q ⟨G, r, ds, r', rel, q, e, k⟩ => by
    cases q with
    | nil => cases e
    | @cons v vs d ds hd tl =>
      have e : (match p.f d r with
        | some r1 => ps.f ds r1
        | none => none) = some r' := e
      cases hp : p.f d r with
      | none => rw [hp] at e; cases e
      | some r1 =>
        rw [hp] at e
        refine ⟨v, vs, rfl, G, r, d, r1, rel, hd, hp, fun s1 rel1 w1 => ⟨G, r1, ds, r', rel1, tl, e, fun s2 rel2 w2 => k s2 rel2 fun vs hv => ?_⟩⟩
        exact (w2 vs fun i hi => hv i (List.mem_append_right _ hi)).trans (w1 vs fun i hi => hv i (List.mem_append_left _ hi))
theorem dg_tup {es : List Expr} {k : Nat} {ps : Pats} {pos : Pos} (hc : X.calm = true) (h : DGts X es ps) (hn : (assignEach es X.env).length = ps.n) (hst : (assignEach es X.env).findIdx? (·.1) = none) : DGt X (.Tuple es k pos) (pTup ps) := fun fr T =>
  pg_imp (pg_tup (n := ps.n) hc (h fr T) hn hst) fun v s H Q ⟨G, r, d, r', rel, q, e, kk⟩ => by
    cases q with
    | @tup a xs ds h1 h2 =>
      have e : (if ds.length = ps.n then ps.f ds r else none) = some r' := e
      split at e
      · rename_i hl
        exact ⟨a, xs, rfl, SqT.of (rel.sub _ _ h1), by rw [DqAll.length h2]; exact hl, G, r, ds, r', rel, h2, e, kk⟩
      · cases e
    | _ => cases e
end
/-! ### comprehensions -/
def dYes : DT := fun r => .ok (true, r)
def lcL (p : Pat) (t : DT) (e : DX) (vs : List Nat) : List PyData → DEnv → R (List PyData × DEnv)
  | [], r => .ok ([], r)
  | d :: ds, r => (match p.f d r with
    | none => .stuck
    | some r1 => (match t r1 with
      | .ok (true, r2) => (match frzE e r2 with
        | .ok (y, r3) => (match lcL p t e vs ds (wipeD r3 vs) with
          | .ok (ys, r4) => .ok (y :: ys, r4)
          | _ => .stuck)
        | _ => .stuck)
      | .ok (false, r2) => lcL p t e vs ds (wipeD r2 vs)
      | _ => .stuck))
def lcK (p : Pat) (t : DT) (e : DX) (vs : List Nat) (ds : List PyData) (r : DEnv) : R (DV × DEnv) :=
  if ownFree r vs = true ∧ ds.length ≤ sizeLine then (match lcL p t e vs ds (wipeD r vs) with
    | .ok (ys, r2) => .ok (.own (.lst ys), restoreD vs r r2)
    | _ => .stuck) else .stuck
def dLc (it : DI) (p : Pat) (t : DT) (e : DX) (vs : List Nat) : DX := fun r => (it r).bind fun q => lcK p t e vs q.1 q.2
/-- any frame, any objects of nobody's -/
def tDe (X : Cx) (f : DX) : TE := fun s H Q => ∃ fr T, tD X (fun _ _ _ _ => False) fr T f s H Q
def tDTe (X : Cx) (f : DT) : TT := fun s H Q => ∃ fr T, tDT X (fun _ _ _ _ => False) fr T f s H Q
def tDGe (X : Cx) (p : Pat) : TG := fun v s H Q => ∃ fr T, tDG X fr T p v s H Q
abbrev W0 : WX := fun _ _ _ _ => False
section
variable {X : Cx} {W : WX} {fr : Fm} {T : List (Addr × Ob)} {G : Hp} {r : DEnv} {s : L2.St} {H : Hp}
theorem pe_any {e : Expr} {f : DX} (h : DE X W0 e f) : PE X e (tDe X f) := ⟨fun pins s σ H Q I ⟨fr, T, w⟩ => (h fr T).run pins s σ H Q I w⟩
theorem pt_any {e : Expr} {f : DT} (h : DTe X W0 e f) : PT X e (tDTe X f) := ⟨fun pins s σ H Q I ⟨fr, T, w⟩ => (h fr T).run pins s σ H Q I w⟩
theorem pg_any {e : Expr} {p : Pat} (h : DGt X e p) : PG X e (tDGe X p) := ⟨fun pins s σ H v u Q I r ⟨fr, T, w⟩ => (h fr T).run pins s σ H v u Q I r w⟩
theorem pts_yes : PTs X [] (tDTe X dYes) := ⟨fun pins s σ H Q I ⟨fr, T, G, r, rel, o⟩ => (pts_nil (X := X)).run pins s σ H Q I (o H ⟨G, .refl _, rel⟩)⟩
theorem di_bindO {B : Type} {fa : DI} {g : List PyData → DEnv → R B} {K1 : It → Hp → Prop} (O : Outc X W fr T s B) (rel : Rel X.K X.mg fr T G r s H) (o : O.O G ((fa r).bind fun p => g p.1 p.2))
    (hk : ∀ G' r' J H1 ds, Same G G' → Rel X.K X.mg fr T G' r' s H1 → WalkD G' J ds → O.O G' (g ds r') → K1 J H1) : tDI X W fr T fa s H K1 := by
  refine ⟨G, r, rel, ?_⟩
  cases hf : fa r with
  | stuck => rw [hf] at o; exact O.stk o
  | exc c fs r' => rw [hf] at o; exact O.exc o
  | ok p =>
    rw [hf] at o
    intro J H1 ⟨G1, m, q1, q2⟩
    exact hk G1 p.2 J H1 p.1 m q1 q2 (O.mono m o)
theorem yd_rel {G1 G' Hc H' : Hp} {x : V} {d : PyData} {T' : List (Addr × Ob)} (rel : Rel X.K X.mg fr T' G' r s Hc) (m : Same G1 G') (y : YD G1 Hc x H' d) : ∃ Gx, Same G' Gx ∧ Rel X.K X.mg fr T' Gx r s H' ∧ Dq Gx x d := by
  rcases y with ⟨rfl, q⟩ | ⟨t, vs, es, rfl, hn, rfl, q, rfl⟩
  · exact ⟨G', .refl _, rel, Dq.mono m q⟩
  · have e : Ext G' Hc (upd G' t (.tup vs)) (upd Hc t (.tup vs)) := Ext.lay rel.sub hn
    exact ⟨_, e.mono, rel.ext e, .tup upd_same (DqAll.mono (m.trans e.mono) q)⟩
theorem lc_run {it : DI} {p : Pat} {t : DT} {e : DX} {vs : List Nat} {Q : VK} (hv : ∀ i, i ∈ p.sl → i ∈ vs) (h : tD X W fr T (dLc it p t e vs) s H Q) : tLc (tDI X W fr T it) (tDGe X p) (tDTe X t) (tDe X e) vs s H Q := by
  obtain ⟨G, r, rel, o⟩ := h
  refine di_bindO (g := fun ds r1 => lcK p t e vs ds r1) (ocX Q) rel o fun G1 r1 J H1 ds m rel1 walk o1 => fun D hD => ?_
  have o1 : out X W fr T G1 s (lcK p t e vs ds r1) Q := o1
  unfold lcK at o1
  split at o1
  case isFalse => exact o1.elim
  rename_i hc
  obtain ⟨hfree, hsz⟩ := hc
  cases hl : lcL p t e vs ds (wipeD r1 vs) with
  | stuck => rw [hl] at o1; exact o1.elim
  | exc _ _ _ => rw [hl] at o1; exact o1.elim
  | ok z =>
    obtain ⟨res, rend⟩ := z
    rw [hl] at o1
    have start : Rel X.K X.mg fr ((D, .lst []) :: T) G1 (wipeD r1 vs) (wipe s vs) (upd H1 D (.lst [])) := (rel1.wipe vs).push (ho := .lst []) hD ⟨[], rfl, .nil⟩
    refine ⟨fun i m Hc => i ≤ ds.length ∧ m = ds.length - i ∧ ∃ G' q acc, Same G1 G' ∧ Rel X.K X.mg fr ((D, .lst acc) :: T) G' q (wipe s vs) Hc ∧ acc.length ≤ i ∧ ∃ rest, lcL p t e vs (ds.drop i) q = .ok (rest, rend) ∧ res = acc ++ rest,
      ⟨ds.length, Nat.zero_le _, rfl, G1, wipeD r1 vs, [], .refl _, start, Nat.le_refl _, res, hl, rfl⟩, ?_⟩
    rintro i m Hc ⟨hi, rfl, G', q, acc, m1, relc, hacc, rest, hrest, hres⟩
    have sub1 : Same G1 Hc := m1.trans relc.sub
    by_cases hlt : i < ds.length
    · refine .inr ⟨walk.goes i Hc sub1 hlt, fun Hn => i + 1 ≤ ds.length ∧ ∃ G' q acc, Same G1 G' ∧ Rel X.K X.mg fr ((D, .lst acc) :: T) G' q (wipe s vs) Hn ∧ acc.length ≤ i + 1 ∧ ∃ rest, lcL p t e vs (ds.drop (i + 1)) q = .ok (rest, rend) ∧ res = acc ++ rest,
        fun Hn ⟨z1, z2⟩ => ⟨ds.length - (i + 1), by omega, z1, rfl, z2⟩, fun x H' y => ?_⟩
      have hd : ds.drop i = ds[i] :: ds.drop (i + 1) := List.drop_eq_getElem_cons hlt
      obtain ⟨Gx, mx, relx, dx⟩ := yd_rel relc m1 (walk.yields i Hc x H' ds[i] sub1 y (List.getElem?_eq_getElem hlt))
      rw [hd] at hrest
      have hrest : (match p.f ds[i] q with
        | none => R.stuck
        | some r1 => (match t r1 with
          | .ok (true, r2) => (match frzE e r2 with
            | .ok (y, r3) => (match lcL p t e vs (ds.drop (i + 1)) (wipeD r3 vs) with
              | .ok (ys, r4) => .ok (y :: ys, r4)
              | _ => .stuck)
            | _ => .stuck)
          | .ok (false, r2) => lcL p t e vs (ds.drop (i + 1)) (wipeD r2 vs)
          | _ => .stuck)) = .ok (rest, rend) := hrest
      cases hp : p.f ds[i] q with
      | none => rw [hp] at hrest; cases hrest
      | some q1 =>
        rw [hp] at hrest
        refine ⟨fr, (D, .lst acc) :: T, Gx, q, ds[i], q1, relx, dx, hp, fun s' rel' hw => ⟨(hw vs hv).trans wipe_wipe, ?_⟩⟩
        have hws : wipe s' vs = wipe s vs := (hw vs hv).trans wipe_wipe
        refine ⟨fr, (D, .lst acc) :: T, Gx, q1, rel', ?_⟩
        have hrest : (match t q1 with
          | .ok (true, r2) => (match frzE e r2 with
            | .ok (y, r3) => (match lcL p t e vs (ds.drop (i + 1)) (wipeD r3 vs) with
              | .ok (ys, r4) => R.ok (y :: ys, r4)
              | _ => .stuck)
            | _ => .stuck)
          | .ok (false, r2) => lcL p t e vs (ds.drop (i + 1)) (wipeD r2 vs)
          | _ => .stuck) = .ok (rest, rend) := hrest
        cases ht : t q1 with
        | stuck => rw [ht] at hrest; cases hrest
        | exc _ _ _ => rw [ht] at hrest; cases hrest
        | ok z =>
          obtain ⟨b, q2⟩ := z
          rw [ht] at hrest
          intro H3 ⟨G3, m3, rel3⟩
          have m13 : Same G1 G3 := m1.trans (mx.trans m3)
          cases b with
          | false =>
            refine iteF ⟨by omega, G3, wipeD q2 vs, acc, m13, ?_, by omega, rest, hrest, hres⟩
            have z := rel3.wipe vs
            rw [hws] at z
            exact z
          | true =>
            refine iteT ⟨fr, (D, .lst acc) :: T, G3, q2, rel3, ?_⟩
            have hrest : (match frzE e q2 with
              | .ok (y, r3) => (match lcL p t e vs (ds.drop (i + 1)) (wipeD r3 vs) with
                | .ok (ys, r4) => R.ok (y :: ys, r4)
                | _ => .stuck)
              | _ => .stuck) = .ok (rest, rend) := hrest
            cases he : e q2 with
            | stuck =>
              have hz : frzE e q2 = .stuck := by unfold frzE; rw [he]; rfl
              rw [hz] at hrest; cases hrest
            | exc c fs r' =>
              have hz : frzE e q2 = .exc c fs r' := by unfold frzE; rw [he]; rfl
              rw [hz] at hrest; cases hrest
            | ok z =>
              obtain ⟨dv, q3⟩ := z
              have hz : frzE e q2 = (match frz dv q3 with
                | some q => .ok q
                | none => .stuck) := by unfold frzE; rw [he]; rfl
              intro y' H4 hpost
              cases hfz : frz dv q3 with
              | none => rw [hz, hfz] at hrest; cases hrest
              | some z =>
                obtain ⟨dy, q4⟩ := z
                rw [hz, hfz] at hrest
                have hrest : (match lcL p t e vs (ds.drop (i + 1)) (wipeD q4 vs) with
                  | .ok (ys, r4) => R.ok (dy :: ys, r4)
                  | _ => .stuck) = .ok (rest, rend) := hrest
                obtain ⟨G4, m4, rel4, dq4⟩ := frz_ok hpost hfz
                obtain ⟨⟨g4, ho4, hh4, vacc, rfl, qa⟩, _⟩ := rel4.tmp _ List.mem_cons_self
                cases hl2 : lcL p t e vs (ds.drop (i + 1)) (wipeD q4 vs) with
                | stuck => rw [hl2] at hrest; cases hrest
                | exc _ _ _ => rw [hl2] at hrest; cases hrest
                | ok z =>
                  obtain ⟨ys, q5⟩ := z
                  rw [hl2] at hrest
                  cases hrest
                  refine ⟨vacc, hh4, by rw [DqAll.length qa]; omega, by omega, G4, wipeD q4 vs, acc ++ [dy], m13.trans m4, ?_, by rw [List.length_append]; show acc.length + 1 ≤ i + 1; omega, ys, hl2, by rw [hres, List.append_assoc]; rfl⟩
                  have z := (rel4.writeT (ho' := .lst (vacc ++ [y'])) (o' := .lst (acc ++ [dy])) ⟨_, rfl, DqAll.append qa (.cons dq4 .nil)⟩).wipe vs
                  rw [hws] at z
                  exact z
    · have e1 : i = ds.length := by omega
      subst e1
      rw [List.drop_length] at hrest
      cases hrest
      rw [List.append_nil] at hres
      subst hres
      exact .inl ⟨walk.stops Hc sub1, o1 (.ref D) Hc ⟨G', m1, D, rfl, rel1.restore hfree m1 relc⟩⟩
theorem de_lc {elt tg iter : Expr} {ifs : List Expr} {scope : Scope} {own : List (Str × Nat)} {pos : Pos} {it : DI} {p : Pat} {t : DT} {e : DX} (hc : X.calm = true) (hN : X.N.Nodup) (hi : DIt X W tg iter it) (ok : BlkOk X.N X.env.scope scope own)
    (hg : ∀ (s : Shared) (H : Hp) (C : Addr) (cl : List (Str × Addr)) (fp : List Addr), DGt (X.blk s H scope (compEnvC scope cl C X.env) fp) tg p) (ht : ∀ (s : Shared) (H : Hp) (C : Addr) (cl : List (Str × Addr)) (fp : List Addr), PTs (X.blk s H scope (compEnvC scope cl C X.env) fp) ifs (tDTe X t))
    (he : ∀ (s : Shared) (H : Hp) (C : Addr) (cl : List (Str × Addr)) (fp : List Addr), DE (X.blk s H scope (compEnvC scope cl C X.env) fp) W0 elt e) (hv : ∀ i, i ∈ p.sl → i ∈ own.map (·.2)) (hs : ∀ x, foldedSetIterable iter X.env x = pure x) :
    DE X W (.ListComp elt [⟨tg, iter, ifs, 0⟩] scope pos) (dLc it p t e (own.map (·.2))) := fun fr T =>
  pe_imp (pe_lc hc hN (hi fr T) ok (fun s H C cl fp => pg_any (hg s H C cl fp)) ht (fun s H C cl fp => pe_any (he s H C cl fp)) hs) fun _ _ _ h => lc_run hv h
end
end Dn
namespace Dn
open PySem PySem.Spec PyProof.Rows L2
/-! ### a list of one's own, changed by a method -/
abbrev OpM := List PyData → List PyData → Option (PyData × List PyData)
def rM (op : OpM) : V → List V → Hp → VK → Prop := fun x vs H Q => ∃ G a vs0 ys ds d zs, x = .ref a ∧ H a = some (.lst vs0) ∧ DqAll G vs0 ys ∧ DqAll G vs ds ∧ op ys ds = some (d, zs) ∧
  ∀ v ws, Dq G v d → DqAll G ws zs → Q v (upd H a (.lst ws))
def mK (op : OpM) (i : Nat) (ds : List PyData) (r : DEnv) : R (DV × DEnv) := match r[i]? with
  | some (some (.own b (.lst ys))) => (match op ys ds with
    | some (d, zs) => .ok (.dat d, r.set i (some (.own b (.lst zs))))
    | none => .stuck)
  | _ => .stuck
def dM (op : OpM) (i : Nat) (f : DF) : DX := fun r => match r[i]? with
  | some (some (.own _ (.lst _))) => (f r).bind fun p => mK op i p.1 p.2
  | _ => .stuck
section
variable {X : Cx} {W : WX} {fr : Fm} {T : List (Addr × Ob)} {G : Hp} {r : DEnv} {s : L2.St} {H : Hp}
theorem own_lst {i : Nat} {b : Bool} {ys : List PyData} (rel : Rel X.K X.mg fr T G r s H) (h : r[i]? = some (some (.own b (.lst ys)))) : ∃ a vs, s[i]? = some (some (.ref a)) ∧ H a = some (.lst vs) ∧ DqAll G vs ys := by
  obtain ⟨v, ev, a, rfl, g, ho, hh, vs, rfl, q⟩ := rel.slot i _ h
  exact ⟨a, vs, ev, hh, q⟩
theorem mK_ok {op : OpM} {i : Nat} {ds : List PyData} {vs : List V} {a : Addr} {Q : VK} (rel : Rel X.K X.mg fr T G r s H) (ha : s[i]? = some (some (.ref a))) (q : DqAll G vs ds) (o : out X W fr T G s (mK op i ds r) Q) : rM op (.ref a) vs H Q := by
  unfold mK at o
  split at o
  · rename_i b ys hi
    split at o
    · rename_i d zs hop
      obtain ⟨a', vs0, e1, e2, e3⟩ := own_lst rel hi
      rw [ha] at e1
      cases e1
      refine ⟨G, a, vs0, ys, ds, d, zs, rfl, e2, e3, q, hop, fun v ws dv dw => o v _ ⟨G, .refl _, rel.write hi ha ⟨ws, rfl, dw⟩, dv⟩⟩
    · exact o.elim
  · exact o.elim
theorem de_m {op : OpM} {i : Nat} {f : DF} {x : Str} {name : Str} {id : String} {e : Expr} {es : List Expr} {npos apos cpos : Pos} (hN : X.N[i]? = some x) (hv : Vis X.env.scope x) (hd : (x == ("__debug__" : Str)) = false) (hcd : (x == ("__classdict__" : Str)) = false)
    (slot : Slot "list" name id) (hty : typeOf (.builtin id) = pure (.type "method_descriptor")) (hm : MtR X id (rM op)) (ha : DFs X W (e :: es) f)
    (hbase : attributeBase (.Name x npos) name X.env (eval (.Name x npos) X.env) = eval (.Name x npos) X.env)
    (hfew : ((backTo cpos (starEach (e :: es) X.env)).all (fun x => !x.1) && (backToKw cpos (keywordEach [] X.env)).all (fun x => x.1.isSome)
      && decide ((e :: es).length + ([] : List Keyword).length + (if ([] : List Keyword).isEmpty then 0 else 1) < 30)) = true)
    (hline : (apos.endLine == cpos.line) = true) (hs : starEach (e :: es) X.env = (false, eval e X.env) :: starEach es X.env) (hplain : (backTo cpos (starEach es X.env)).any (·.1) = false) :
    DE X W (.Call (.Attribute (.Name x npos) name apos) (e :: es) [] cpos) (dM op i f) := fun fr T =>
  pe_imp (pe_bm PySem.F.plainAttrs_list slot hty hm (pe_var hN hv hd hcd) (ha fr T) hbase hfew hline hs hplain) fun s H Q ⟨G, r, rel, o⟩ => by
    unfold dM at o
    split at o
    · rename_i b ys hi
      obtain ⟨a, vs, e1, e2, e3⟩ := own_lst rel hi
      refine ⟨.ref a, e1, .inl ⟨rfl, vs, SqL.of e2⟩, ?_⟩
      exact df_bindO (g := fun ds r1 => mK op i ds r1) (ocX Q) rel o fun G1 r1 ws H1 ds m rel1 q o1 => mK_ok rel1 e1 q o1
    · exact o.elim
theorem de_m0 {op : OpM} {i : Nat} {x : Str} {name : Str} {id : String} {npos apos cpos : Pos} (hN : X.N[i]? = some x) (hv : Vis X.env.scope x) (hd : (x == ("__debug__" : Str)) = false) (hcd : (x == ("__classdict__" : Str)) = false)
    (slot : Slot "list" name id) (hty : typeOf (.builtin id) = pure (.type "method_descriptor")) (hm : MtR X id (rM op))
    (hbase : attributeBase (.Name x npos) name X.env (eval (.Name x npos) X.env) = eval (.Name x npos) X.env) (hline : (apos.endLine == cpos.line) = true) :
    DE X W (.Call (.Attribute (.Name x npos) name apos) [] [] cpos) (dM op i dfNil) := fun fr T =>
  pe_imp (pe_bm0 PySem.F.plainAttrs_list slot hty hm (pe_var hN hv hd hcd) hbase hline) fun s H Q ⟨G, r, rel, o⟩ => by
    unfold dM at o
    split at o
    · rename_i b ys hi
      obtain ⟨a, vs, e1, e2, e3⟩ := own_lst rel hi
      exact ⟨.ref a, e1, .inl ⟨rfl, vs, SqL.of e2⟩, mK_ok (ds := []) rel e1 .nil o⟩
    · exact o.elim
end
/-! the methods -/
section
variable {X : Cx}
theorem mt_of {id : String} {op : OpM} (h : ∀ (pins : List (Addr × Obj)) (s : Shared) (σ : L2.St) (G H : Hp) (a : Addr) (vs0 vs : List V) (v : Value) (us : List Value) (Q : VK) (ys ds : List PyData) (d : PyData) (zs : List PyData),
    Inv X pins σ H s → RelV (.ref a) v → Vals vs us → H a = some (.lst vs0) → DqAll G vs0 ys → DqAll G vs ds → op ys ds = some (d, zs) → (∀ v ws, Dq G v d → DqAll G ws zs → Q v (upd H a (.lst ws))) →
    wpAny (model X.prog X.w) X.A (call (.builtin id) (v :: us)) (EP X pins σ Q) X.xe s) : MtR X id (rM op) := by
  intro pins s σ H x vs v us Q I rx rv hh
  obtain ⟨G, a, vs0, ys, ds, d, zs, rfl, h1, h2, h3, h4, h5⟩ := hh
  exact h pins s σ G H a vs0 vs v us Q ys ds d zs I rx rv h1 h2 h3 h4 h5
def appendO : OpM
  | ys, [d] => if ys.length < sizeLine then some (.none, ys ++ [d]) else none
  | _, _ => none
theorem mt_appendD : MtR X "list.append" (rM appendO) := mt_of fun pins s σ G H a vs0 vs v us Q ys ds d zs I rx rv h1 h2 h3 h4 h5 => by
  cases h3 with
  | nil => cases h4
  | cons hd t =>
    cases t with
    | cons _ _ => cases h4
    | nil =>
      rename_i w dw
      have h4 : (if ys.length < sizeLine then some (PyData.none, ys ++ [dw]) else none) = some (d, zs) := h4
      split at h4
      · rename_i hz
        cases h4
        exact mt_append pins s σ H _ _ v us Q I rx rv ⟨a, vs0, w, rfl, rfl, h1, by rw [DqAll.length h2]; exact hz, h5 _ _ .non (DqAll.append h2 (.cons hd .nil))⟩
      · cases h4
def popO : OpM
  | ys, [] => (match ys[ys.length - 1]? with
    | some y => some (y, ys.dropLast)
    | none => none)
  | ys, [.int i] => (match ixN ys.length i with
    | some k => (match ys[k]? with
      | some y => some (y, ys.eraseIdx k)
      | none => none)
    | none => none)
  | _, _ => none
theorem dqAll_dropLast {G : Hp} : ∀ {vs : List V} {ds : List PyData}, DqAll G vs ds → DqAll G vs.dropLast ds.dropLast
  | _, _, .nil => .nil
  | _, _, .cons _ .nil => .nil
  | _, _, .cons h (.cons h' t) => .cons h (dqAll_dropLast (.cons h' t))
theorem mt_popD : MtR X "list.pop" (rM popO) := mt_of fun pins s σ G H a vs0 vs v us Q ys ds d zs I rx rv h1 h2 h3 h4 h5 => by
  cases h3 with
  | nil =>
    have h4 : (match ys[ys.length - 1]? with
      | some y => some (y, ys.dropLast)
      | none => none) = some (d, zs) := h4
    split at h4
    · rename_i y hy
      cases h4
      rw [← DqAll.length h2] at hy
      obtain ⟨w, e1, e2⟩ := DqAll.get h2 hy
      exact mt_pop pins s σ H _ _ v us Q I rx rv ⟨a, vs0, w, rfl, rfl, h1, e1, h5 _ _ e2 (dqAll_dropLast h2)⟩
    · cases h4
  | cons hd t =>
    cases hd <;> try (cases h4; done)
    rename_i i
    cases t with
    | cons _ _ => cases h4
    | nil =>
      have h4 : (match ixN ys.length i with
        | some k => (match ys[k]? with
          | some y => some (y, ys.eraseIdx k)
          | none => none)
        | none => none) = some (d, zs) := h4
      split at h4
      · rename_i k hk
        split at h4
        · rename_i y hy
          cases h4
          obtain ⟨w, e1, e2⟩ := DqAll.get h2 hy
          obtain ⟨q1, q2, q3, q4⟩ := ixN_seq hk
          have hz := (I.lstM h1).1
          have hl : (ys.length : Int) < 2 ^ 62 := by
            have : ys.length ≤ sizeLine := by rw [← DqAll.length h2]; exact hz
            have s2 : sizeLine < 2 ^ 62 := by rw [sizeLine_eq]; decide
            omega
          exact mt_popAt pins s σ H _ _ v us Q I rx rv ⟨a, vs0, i, k, w, rfl, rfl, h1, by omega, by omega, by rw [DqAll.length h2]; exact q1, e1, h5 _ _ e2 (DqAll.eraseIdx _ h2)⟩
        · cases h4
      · cases h4
def insertO : OpM
  | ys, [.int i, d] => if ys.length < sizeLine ∧ 0 ≤ i ∧ i < 2 ^ 63 then some (.none, ys.take i.toNat ++ [d] ++ ys.drop i.toNat) else none
  | _, _ => none
theorem mt_insertD : MtR X "list.insert" (rM insertO) := mt_of fun pins s σ G H a vs0 vs v us Q ys ds d zs I rx rv h1 h2 h3 h4 h5 => by
  cases h3 with
  | nil => cases h4
  | cons hd t =>
    cases t with
    | nil => cases hd <;> cases h4
    | cons hd2 t =>
      cases t with
      | cons _ _ => cases hd <;> cases h4
      | nil =>
        cases hd <;> try (cases h4; done)
        rename_i w dw i
        have h4 : (if ys.length < sizeLine ∧ 0 ≤ i ∧ i < 2 ^ 63 then some (PyData.none, ys.take i.toNat ++ [dw] ++ ys.drop i.toNat) else none) = some (d, zs) := h4
        split at h4
        · rename_i hz
          cases h4
          exact mt_insert pins s σ H _ _ v us Q I rx rv ⟨a, vs0, i, w, rfl, rfl, h1, by rw [DqAll.length h2]; exact hz.1, hz.2.1, hz.2.2, h5 _ _ .non (DqAll.append (DqAll.append (DqAll.take _ h2) (.cons hd2 .nil)) (DqAll.drop _ h2))⟩
        · cases h4
end
/-! ### statements -/
inductive RS where
  | nx (r : DEnv)
  | rt (v : DV) (r : DEnv)
  | bk (r : DEnv)
  | ct (r : DEnv)
  | exc (c : Str) (fs : List PyData) (r : DEnv)
  | stuck
abbrev DS := DEnv → RS
section
variable (X : Cx) (W : WX) (fr : Fm)
def NPost (G : Hp) (r : DEnv) (s : L2.St) (H : Hp) : Prop := ∃ G', Same G G' ∧ Rel X.K X.mg fr [] G' r s H
def outS (G : Hp) (x : RS) (D : Ends) : Prop := match x with
  | .nx r => ∀ s H, NPost X fr G r s H → D.nx s H
  | .bk r => ∀ s H, NPost X fr G r s H → D.bk s H
  | .ct r => ∀ s H, NPost X fr G r s H → D.ct s H
  | .rt dv r => ∀ s v H, Post X fr [] G s dv r v H → D.rt v H
  | .exc c fs r => ∀ s cls d H, XPost X fr [] G s c fs r cls d H → W cls d s H
  | .stuck => False
def tDS (f : DS) : TS := fun D s H => ∃ G r, Rel X.K X.mg fr [] G r s H ∧ outS X W fr G (f r) D
end
def DSt (X : Cx) (W : WX) (st : Stmt) (f : DS) : Prop := ∀ fr, PS X st (tDS X W fr f)
def DSs (X : Cx) (W : WX) (st : List Stmt) (f : DS) : Prop := ∀ fr, PSs X st (tDS X W fr f)
theorem ps_imp {X : Cx} {st : Stmt} {t t' : TS} (h : PS X st t) (q : ∀ D s H, t' D s H → t D s H) : PS X st t' := ⟨fun pins s σ H D I w => h.run pins s σ H D I (q D σ H w)⟩
theorem pss_imp {X : Cx} {st : List Stmt} {t t' : TS} (h : PSs X st t) (q : ∀ D s H, t' D s H → t D s H) : PSs X st t' := ⟨fun pins s σ H D I w => h.run pins s σ H D I (q D σ H w)⟩
section
variable {X : Cx} {W : WX} {fr : Fm} {G G' : Hp} {r : DEnv} {s : L2.St} {H : Hp}
theorem NPost.mono (m : Same G G') (h : NPost X fr G' r s H) : NPost X fr G r s H := let ⟨G2, m2, q⟩ := h; ⟨G2, m.trans m2, q⟩
theorem outS.mono {x : RS} {D : Ends} (m : Same G G') (h : outS X W fr G x D) : outS X W fr G' x D := by
  cases x with
  | nx r => exact fun s H q => h s H (q.mono m)
  | bk r => exact fun s H q => h s H (q.mono m)
  | ct r => exact fun s H q => h s H (q.mono m)
  | rt dv r => exact fun s v H q => h s v H (q.mono m)
  | exc c fs r => exact fun s cls d H q => h s cls d H (q.mono m)
  | stuck => exact h
def RS.then (x : RS) (g : DEnv → RS) : RS := match x with
  | .nx r => g r
  | x => x
def dSeq (f g : DS) : DS := fun r => (f r).then g
def dSkip : DS := fun r => .nx r
theorem dss_nil : DSs X W [] dSkip := fun fr => pss_imp pss_nil fun D s H ⟨G, r, rel, o⟩ => o s H ⟨G, .refl _, rel⟩
theorem dss_cons {st : Stmt} {rest : List Stmt} {f g : DS} (h1 : DSt X W st f) (h2 : DSs X W rest g) : DSs X W (st :: rest) (dSeq f g) := fun fr => pss_imp (pss_cons (h1 fr) (h2 fr)) fun D s H ⟨G, r, rel, o⟩ => by
  refine ⟨G, r, rel, ?_⟩
  unfold dSeq at o
  cases hf : f r with
  | nx r1 =>
    rw [hf] at o
    exact fun s1 H1 ⟨G1, m, rel1⟩ => ⟨G1, r1, rel1, outS.mono m o⟩
  | rt dv r1 => rw [hf] at o; exact o
  | bk r1 => rw [hf] at o; exact o
  | ct r1 => rw [hf] at o; exact o
  | exc c fs r1 => rw [hf] at o; exact o
  | stuck => rw [hf] at o; exact o
theorem dss_one {st : Stmt} {f : DS} (h1 : DSt X W st f) : DSs X W [st] f := fun fr => pss_one (h1 fr)
/-- a statement that is not gone into -/
def dStuck : DS := fun _ => .stuck
theorem ds_never {st : Stmt} : DSt X W st dStuck := fun fr => ps_imp ps_never fun D s H ⟨G, r, rel, o⟩ => o
theorem ds_pass {pos : Pos} : DSt X W (.Pass pos) dSkip := fun fr => ps_imp ps_pass fun D s H ⟨G, r, rel, o⟩ => o s H ⟨G, .refl _, rel⟩
def dBreak : DS := fun r => .bk r
def dCont : DS := fun r => .ct r
theorem ds_break {pos : Pos} : DSt X W (.Break pos) dBreak := fun fr => ps_imp ps_break fun D s H ⟨G, r, rel, o⟩ => o s H ⟨G, .refl _, rel⟩
theorem ds_continue {pos : Pos} : DSt X W (.Continue pos) dCont := fun fr => ps_imp ps_continue fun D s H ⟨G, r, rel, o⟩ => o s H ⟨G, .refl _, rel⟩
/-- a statement's outcome as an expression's -/
def R.toS {A : Type} (x : R A) (g : A → RS) : RS := match x with
  | .ok a => g a
  | .exc c fs r => .exc c fs r
  | .stuck => .stuck
/-- an expression evaluated ahead of what a statement does -/
theorem ex_run {f : DX} {g : DV × DEnv → RS} {D : Ends} {K1 : VK} (rel : Rel X.K X.mg fr [] G r s H) (o : outS X W fr G ((f r).toS g) D)
    (hk : ∀ p, f r = .ok p → ∀ v H1, Post X fr [] G s p.1 p.2 v H1 → outS X W fr G (g p) D → K1 v H1) : tD X W fr [] f s H K1 := by
  refine ⟨G, r, rel, ?_⟩
  cases hf : f r with
  | stuck => rw [hf] at o; exact o
  | exc c fs r' => rw [hf] at o; exact fun cls d H => o s cls d H
  | ok p =>
    rw [hf] at o
    exact fun v H1 q => hk p hf v H1 q o
def dDrop (f : DX) : DS := fun r => (f r).toS fun p => .nx p.2
theorem Post.rel {dv : DV} {v : V} (h : Post X fr [] G s dv r v H) : NPost X fr G r s H := by
  obtain ⟨G1, m, q⟩ := h
  cases dv with
  | dat d => exact ⟨G1, m, q.1⟩
  | own o => obtain ⟨a, _, q⟩ := q; exact ⟨G1, m, q.drop⟩
  | loc i => exact ⟨G1, m, q.1⟩
  | fn f => exact ⟨G1, m, q.1⟩
  | scr ns => exact ⟨G1, m, q.1⟩
  | pr d o => obtain ⟨t, a, vd, _, _, _, q⟩ := q; exact ⟨G1, m, q.drop⟩
theorem ds_expr {e : Expr} {f : DX} {pos : Pos} (he : DE X W e f) (hs : swapsWith e none pos.line X.env = pure false) : DSt X W (.Expr e pos) (dDrop f) := fun fr => ps_imp (ps_expr (he fr []) hs) fun D s H ⟨G, r, rel, o⟩ =>
  ex_run rel o fun p _ v H1 q o1 => o1 s H1 q.rel
/-! return -/
def retK : DV × DEnv → RS
  | (.dat d, r) => .rt (.dat d) r
  | (.own o, r) => .rt (.own o) r
  | (.loc i, r) => (match r[i]? with
    | some (some (.own true o)) => .rt (.own o) (r.set i none)
    | some (some (.dat d)) => .rt (.dat d) r
    | _ => .stuck)
  | _ => .stuck
def dRet (f : DX) : DS := fun r => (f r).toS retK
theorem Rel.moveOut {K : PySem.W.Frag} {mg : Str → Option Value} {T : List (Addr × Ob)} (h : Rel K mg fr T G r s H) {i : Nat} {o : Ob} {a : Addr} (hi : r[i]? = some (some (.own true o))) (ha : s[i]? = some (some (.ref a))) : Rel K mg fr ((a, o) :: T) G (r.set i none) s H := by
  obtain ⟨v, ev, c, ec, ob⟩ := h.slot i _ hi
  rw [ha] at ev
  obtain rfl : V.ref a = v := by injection ev with ev; injection ev
  cases ec
  have low : ∀ {j : Nat} {sl : Sl}, (r.set i none)[j]? = some (some sl) → j ≠ i ∧ r[j]? = some (some sl) := fun {j sl} z => by
    rcases set_some z with ⟨_, z, _⟩ | z
    · cases z
    · exact z
  refine ⟨h.sub, h.g0, h.new, h.keep, h.exs, by rw [List.length_set]; exact h.len, fun j sl z => h.slot j sl (low z).2, fun j b o' c z z2 => h.home j b o' c (low z).2 z2, fun j k b o1 b' o2 c z1 z2 z3 z4 => h.apart j k b o1 b' o2 c (low z1).2 z2 (low z3).2 z4, fun t ht => ?_, fun t ht j b o' z => ?_, ?_⟩
  · rcases List.mem_cons.mp ht with rfl | ht
    · refine ⟨ob, ?_⟩
      rcases h.home i _ _ _ hi ha with ⟨_, z⟩ | ⟨z, _⟩
      · exact z
      · cases z
    · exact h.tmp t ht
  · rcases List.mem_cons.mp ht with rfl | ht
    · intro z2
      exact (low z).1 (h.apart j i b o' _ _ _ (low z).2 z2 hi ha)
    · exact h.tapart t ht j b o' (low z).2
  · rw [List.map_cons, List.nodup_cons]
    refine ⟨fun hm => ?_, h.tnd⟩
    obtain ⟨t, ht, et⟩ := List.mem_map.mp hm
    exact h.tapart t ht i _ _ hi (by rw [ha, et])
theorem ds_ret {e : Expr} {f : DX} {pos : Pos} (he : DE X W e f) : DSt X W (.Return (some e) pos) (dRet f) := fun fr => ps_imp (ps_ret (he fr [])) fun D s H ⟨G, r, rel, o⟩ =>
  ex_run rel o fun p _ v H1 q o1 => by
    obtain ⟨dv, r1⟩ := p
    cases dv with
    | dat d => exact o1 s v H1 q
    | own ob => exact o1 s v H1 q
    | fn f => exact o1.elim
    | scr ns => exact o1.elim
    | pr d ob => exact o1.elim
    | loc i =>
      have o1 : outS X W fr G (match r1[i]? with
        | some (some (.own true o)) => .rt (.own o) (r1.set i none)
        | some (some (.dat d)) => .rt (.dat d) r1
        | _ => .stuck) D := o1
      obtain ⟨G1, m, rel1, hv⟩ := q
      split at o1
      · rename_i ob hi
        obtain ⟨v', ev, a, ea, _⟩ := rel1.slot i _ hi
        rw [hv] at ev
        obtain rfl : v = v' := by injection ev with ev; injection ev
        subst ea
        exact o1 s _ H1 ⟨G1, m, a, rfl, rel1.moveOut hi hv⟩
      · rename_i d hi
        obtain ⟨v', ev, q2⟩ := rel1.slot i _ hi
        rw [hv] at ev
        obtain rfl : v = v' := by injection ev with ev; injection ev
        exact o1 s _ H1 ⟨G1, m, rel1, q2⟩
      · exact o1.elim
def dRetN : DS := fun r => .rt (.dat .none) r
theorem ds_retN {pos : Pos} : DSt X W (.Return none pos) dRetN := fun fr => ps_imp ps_retN fun D s H ⟨G, r, rel, o⟩ => o s .non H ⟨G, .refl _, rel, .non⟩
/-! if -/
def dIfS (c : DT) (f g : DS) : DS := fun r => (c r).toS fun p => match p.1 with
  | true => f p.2
  | false => g p.2
theorem ds_if {c : Expr} {a b : List Stmt} {fc : DT} {f g : DS} {pos : Pos} (hc : DTe X W c fc) (ha : DSs X W a f) (hb : DSs X W b g) : DSt X W (.If c a b pos) (dIfS fc f g) := fun fr => ps_imp (ps_if (hc fr []) (ha fr) (hb fr)) fun D s H ⟨G, r, rel, o⟩ => by
  refine ⟨G, r, rel, ?_⟩
  unfold dIfS at o
  cases hf : fc r with
  | stuck => rw [hf] at o; exact o
  | exc c fs r' => rw [hf] at o; exact fun cls d H => o s cls d H
  | ok p =>
    obtain ⟨b, r1⟩ := p
    rw [hf] at o
    intro H1 ⟨G1, m, rel1⟩
    cases b with
    | true => exact iteT ⟨G1, r1, rel1, outS.mono m o⟩
    | false => exact iteF ⟨G1, r1, rel1, outS.mono m o⟩
/-! names -/
/-- a value is given to the i-th name; k: a new object stays its own -/
def setK (i : Nat) (k : Bool) : DV → DEnv → Option DEnv
  | .dat d, r => some (r.set i (some (.dat d)))
  | .own o, r => (match k with
    | true => some (r.set i (some (.own true o)))
    | false => (match o.data with
      | some d => some (r.set i (some (.dat d)))
      | none => none))
  | .loc j, r => (match frz (.loc j) r with
    | some (d, r1) => some (r1.set i (some (.dat d)))
    | none => none)
  | .fn f, r => some (r.set i (some (.fn f)))
  | .scr _, _ => none
  | .pr _ _, _ => none
theorem setK_ok {i : Nat} {k : Bool} {dv : DV} {r' : DEnv} {v : V} {T : List (Addr × Ob)} (h : Post X fr T G s dv r v H) (e : setK i k dv r = some r') : ∃ G', Same G G' ∧ Rel X.K X.mg fr T G' r' (s.set i (some v)) H := by
  have viaFrz : ∀ {d : PyData} {r1 : DEnv}, frz dv r = some (d, r1) → r' = r1.set i (some (.dat d)) → ∃ G', Same G G' ∧ Rel X.K X.mg fr T G' r' (s.set i (some v)) H := fun {d r1} hz er => by
    obtain ⟨G2, m2, rel2, q2⟩ := frz_ok h hz
    rw [er]
    exact ⟨G2, m2, rel2.setDat q2⟩
  cases dv with
  | dat d => cases e; exact viaFrz rfl rfl
  | own o =>
    cases k with
    | true =>
      cases e
      obtain ⟨G1, m, a, rfl, q⟩ := h
      exact ⟨G1, m, q.setOwn⟩
    | false =>
      have e : (match o.data with
        | some d => some (r.set i (some (.dat d)))
        | none => none) = some r' := e
      cases ho : o.data with
      | none => rw [ho] at e; cases e
      | some d =>
        rw [ho] at e
        cases e
        exact viaFrz (by show (match o.data with | some d => some (d, r) | none => none) = _; rw [ho]) rfl
  | loc j =>
    have e : (match frz (.loc j) r with
      | some (d, r1) => some (r1.set i (some (Sl.dat d)))
      | none => none) = some r' := e
    cases hz : frz (.loc j) r with
    | none => rw [hz] at e; cases e
    | some z => rw [hz] at e; cases e; exact viaFrz hz rfl
  | fn f =>
    cases e
    obtain ⟨G1, m, q, a, rfl, ha⟩ := h
    exact ⟨G1, m, q.setFn ha⟩
  | scr ns => cases e
  | pr d o => cases e
def dSet (i : Nat) (k : Bool) (f : DX) : DS := fun r => (f r).toS fun p => match setK i k p.1 p.2 with
  | some r' => .nx r'
  | none => .stuck
theorem set_run {i : Nat} {k : Bool} {f : DX} {D : Ends} (h : tDS X W fr (dSet i k f) D s H) : tD X W fr [] f s H fun x H1 => gName i x s H1 D.nx := by
  obtain ⟨G, r, rel, o⟩ := h
  refine ex_run rel o fun p _ v H1 q o1 => ?_
  cases hk : setK i k p.1 p.2 with
  | none => rw [hk] at o1; exact o1.elim
  | some r' =>
    rw [hk] at o1
    exact o1 _ H1 (setK_ok q hk)
theorem ds_set {i : Nat} {k : Bool} {x : Str} {e : Expr} {f : DX} {pos pos' : Pos} (hN : X.N.Nodup) (hi : X.N[i]? = some x) (hx : Loc X.env.scope x) (he : DE X W e f) (hs : swapsWith e (some (.Name x pos')) pos.line X.env = pure false) (hf : X.fn x = true ∨ X.env.scope.names.lookup x = some .local) :
    DSt X W (.Assign [.Name x pos'] e pos) (dSet i k f) := fun fr => ps_imp (ps_set hN hi hx (he fr []) hs hf) fun D s H h => set_run h
theorem ds_setLc {i : Nat} {k : Bool} {y : Str} {py : Pos} {elt tg iter : Expr} {ifs : List Expr} {scope : Scope} {own : List (Str × Nat)} {pos spos : Pos} {it : DI} {p : Pat} {t : DT} {e : DX} (hc : X.calm = true) (hN : X.N.Nodup) (hy : X.N[i]? = some y) (hyl : X.env.scope.names.lookup y = some .local)
    (hsw : swapsWith (.ListComp elt [⟨tg, iter, ifs, 0⟩] scope pos) (some (.Name y py)) spos.line X.env = pure true) (hi : DIt X W tg iter it) (ok : BlkOk X.N X.env.scope scope own)
    (hg : ∀ (s : Shared) (H : Hp) (C : Addr) (cl : List (Str × Addr)) (fp : List Addr), DGt (X.blk s H scope (compEnvC scope cl C X.env) fp) tg p) (ht : ∀ (s : Shared) (H : Hp) (C : Addr) (cl : List (Str × Addr)) (fp : List Addr), PTs (X.blk s H scope (compEnvC scope cl C X.env) fp) ifs (tDTe X t))
    (he : ∀ (s : Shared) (H : Hp) (C : Addr) (cl : List (Str × Addr)) (fp : List Addr), DE (X.blk s H scope (compEnvC scope cl C X.env) fp) W0 elt e) (hv : ∀ i, i ∈ p.sl → i ∈ own.map (·.2)) (hs : ∀ x, foldedSetIterable iter X.env x = pure x) :
    DSt X W (.Assign [.Name y py] (.ListComp elt [⟨tg, iter, ifs, 0⟩] scope pos) spos) (dSet i k (dLc it p t e (own.map (·.2)))) := fun fr =>
  ps_imp (ps_setLc hc hN hy hyl hsw (hi fr []) ok (fun s H C cl fp => pg_any (hg s H C cl fp)) ht (fun s H C cl fp => pe_any (he s H C cl fp)) hs) fun D s H h => lc_run hv (set_run h)
/-! a, b = e, e data -/
def dUn (p : Pat) (f : DX) : DS := fun r => (frzE f r).toS fun q => match p.f q.1 q.2 with
  | some r' => .nx r'
  | none => .stuck
theorem ds_un {tg e : Expr} {f : DX} {p : Pat} {pos : Pos} (he : DE X W e f) (hg : DGt X tg p) (hs : swapsWithSole [tg] e pos.line X.env = pure false) (hw : swappedStores [tg] e X.env = pure none) (h1 : (assignEach [tg] X.env).map (·.2) = [assign tg X.env]) :
    DSt X W (.Assign [tg] e pos) (dUn p f) := fun fr => ps_imp (ps_asg (he fr []) (hg fr []) hs hw h1) fun D s H ⟨G, r, rel, o⟩ => by
  refine ⟨G, r, rel, ?_⟩
  unfold dUn frzE at o
  cases hf : f r with
  | stuck => rw [hf] at o; exact o
  | exc c fs r' => rw [hf] at o; exact fun cls d H => o s cls d H
  | ok z =>
    rw [hf] at o
    obtain ⟨dv, r1⟩ := z
    intro v H1 hpost
    have o : outS X W fr G ((match frz dv r1 with | some q => R.ok q | none => R.stuck).toS fun q => match p.f q.1 q.2 with
      | some r' => .nx r'
      | none => .stuck) D := o
    cases hz : frz dv r1 with
    | none => rw [hz] at o; exact o.elim
    | some z =>
      obtain ⟨d, r2⟩ := z
      rw [hz] at o
      have o : outS X W fr G (match p.f d r2 with
        | some r' => .nx r'
        | none => .stuck) D := o
      obtain ⟨G2, m, rel2, q2⟩ := frz_ok hpost hz
      cases hp : p.f d r2 with
      | none => rw [hp] at o; exact o.elim
      | some r3 =>
        rw [hp] at o
        exact ⟨G2, r2, d, r3, rel2, q2, hp, fun s' rel' _ => o s' H1 ⟨G2, m, rel'⟩⟩
/-! x[k] = e, x a list of one's own -/
def putK2 (i : Nat) (d : PyData) (k : DV) (r : DEnv) : RS := match k with
  | .dat (.int k) => (match r[i]? with
    | some (some (.own b (.lst ys))) => (match ixN ys.length k with
      | some j => .nx (r.set i (some (.own b (.lst (ys.set j d)))))
      | none => .stuck)
    | _ => .stuck)
  | _ => .stuck
def putK1 (i : Nat) (fi : DX) (d : PyData) (r : DEnv) : RS := match r[i]? with
  | some (some (.own _ (.lst _))) => (opd fi r).toS fun q => putK2 i d q.1 q.2
  | _ => .stuck
def dPut (i : Nat) (fi f : DX) : DS := fun r => (frzE f r).toS fun p => putK1 i fi p.1 p.2
end
end Dn
namespace Dn
open PySem PySem.Spec PyProof.Rows L2
section
variable {X : Cx} {W : WX} {fr : Fm} {T : List (Addr × Ob)} {G G' : Hp} {r : DEnv} {s : L2.St} {H : Hp}
/-! ### and, or, not as values -/
def dAndV (f g : DX) : DX := fun r => (opd f r).bind fun p => match p.1 with
  | .dat (.bool true) => g p.2
  | .dat (.bool false) => .ok (.dat (.bool false), p.2)
  | _ => .stuck
def dOrV (f g : DX) : DX := fun r => (opd f r).bind fun p => match p.1 with
  | .dat (.bool true) => .ok (.dat (.bool true), p.2)
  | .dat (.bool false) => g p.2
  | _ => .stuck
def dNotV (f : DX) : DX := fun r => (opd f r).bind fun p => match p.1 with
  | .dat (.bool b) => .ok (.dat (.bool !b), p.2)
  | _ => .stuck
theorem ov_bool {v : V} {b : Bool} (h : OpV X G s v (.dat (.bool b))) : v = .bl b := by
  have h : Dq G v (.bool b) := h
  cases h; rfl
theorem de_one {op : BoolOp} {a : Expr} {f : DX} {pos : Pos} (h : DE X W a f) : DE X W (.BoolOp op [a] pos) f := fun fr T => pe_one (h fr T)
theorem de_and {a b : Expr} {rest : List Expr} {f g : DX} {pos : Pos} (ha : DE X W a f) (hb : DE X W (.BoolOp .And (b :: rest) pos) g) : DE X W (.BoolOp .And (a :: b :: rest) pos) (dAndV f g) := fun fr T =>
  pe_imp (pe_and (ha fr T) (hb fr T)) fun s H Q ⟨G, r, rel, o⟩ => opd_bind (g := fun a r1 => match a with
    | .dat (.bool true) => g r1
    | .dat (.bool false) => .ok (.dat (.bool false), r1)
    | _ => .stuck) rel o fun G1 r1 v H1 dv m rel1 ov o1 => by
      cases dv <;> try (exact o1.elim)
      rename_i d
      cases d <;> try (exact o1.elim)
      rename_i b
      obtain rfl := ov_bool ov
      cases b with
      | true => exact ⟨true, rfl, iteT ⟨G1, r1, rel1, o1⟩⟩
      | false => exact ⟨false, rfl, iteF (o1 _ H1 ⟨G1, .refl _, rel1, .bl false⟩)⟩
theorem de_or {a b : Expr} {rest : List Expr} {f g : DX} {pos : Pos} (ha : DE X W a f) (hb : DE X W (.BoolOp .Or (b :: rest) pos) g) : DE X W (.BoolOp .Or (a :: b :: rest) pos) (dOrV f g) := fun fr T =>
  pe_imp (pe_or (ha fr T) (hb fr T)) fun s H Q ⟨G, r, rel, o⟩ => opd_bind (g := fun a r1 => match a with
    | .dat (.bool true) => .ok (.dat (.bool true), r1)
    | .dat (.bool false) => g r1
    | _ => .stuck) rel o fun G1 r1 v H1 dv m rel1 ov o1 => by
      cases dv <;> try (exact o1.elim)
      rename_i d
      cases d <;> try (exact o1.elim)
      rename_i b
      obtain rfl := ov_bool ov
      cases b with
      | true => exact ⟨true, rfl, iteT (o1 _ H1 ⟨G1, .refl _, rel1, .bl true⟩)⟩
      | false => exact ⟨false, rfl, iteF ⟨G1, r1, rel1, o1⟩⟩
theorem de_not {a : Expr} {f : DX} {pos : Pos} (ha : DE X W a f) : DE X W (.UnaryOp .Not a pos) (dNotV f) := fun fr T =>
  pe_imp (pe_not (ha fr T)) fun s H Q ⟨G, r, rel, o⟩ => opd_bind (g := fun a r1 => match a with
    | .dat (.bool b) => .ok (.dat (.bool !b), r1)
    | _ => .stuck) rel o fun G1 r1 v H1 dv m rel1 ov o1 => by
      cases dv <;> try (exact o1.elim)
      rename_i d
      cases d <;> try (exact o1.elim)
      rename_i b
      obtain rfl := ov_bool ov
      exact ⟨b, rfl, o1 _ H1 ⟨G1, .refl _, rel1, .bl _⟩⟩
/-! ### a statement's outcome behind an expression -/
def ocS (D : Ends) : Outc X W fr [] s RS := ⟨fun G x => outS X W fr G (x.toS id) D, fun h cls d H => h s cls d H, fun h => h, fun {G G' x} m h => outS.mono m h⟩
theorem toS_bind {A : Type} (x : R A) (g : A → RS) : x.toS g = (x.bind fun a => .ok (g a)).toS id := by cases x <;> rfl
/-! ### x[k] = e -/
theorem ds_put {i : Nat} {x : Str} {e ix : Expr} {fi f : DX} {px ps pos : Pos} (hN : X.N[i]? = some x) (hv : Vis X.env.scope x) (hd : (x == ("__debug__" : Str)) = false) (hcd : (x == ("__classdict__" : Str)) = false) (hi : DE X W ix fi) (he : DE X W e f)
    (ha : ∀ v, assign (.Subscript (.Name x px) ix ps) X.env v = (do
      let ov ← holding [v] (eval (.Name x px) X.env)
      let iv ← holding [v, ov] (eval ix X.env)
      standAt ps
      holding [v, ov, iv] (setItem ov iv v)
      release [v, ov, iv] []))
    (hs : swapsWithSole [.Subscript (.Name x px) ix ps] e pos.line X.env = pure false) (hw : swappedStores [.Subscript (.Name x px) ix ps] e X.env = pure none) (h1 : (assignEach [.Subscript (.Name x px) ix ps] X.env).map (·.2) = [assign (.Subscript (.Name x px) ix ps) X.env]) :
    DSt X W (.Assign [.Subscript (.Name x px) ix ps] e pos) (dPut i fi f) := fun fr =>
  ps_imp (ps_asg (he fr []) (pg_sub (pe_var hN hv hd hcd) (hi fr []) set_list ha) hs hw h1) fun D s H ⟨G, r, rel, o⟩ => by
    unfold dPut at o
    rw [toS_bind] at o
    refine frz_bindO (g := fun d r1 => R.ok (putK1 i fi d r1)) (ocS D) rel o fun G1 r1 v H1 d m rel1 q o1 => ?_
    have o1 : outS X W fr G1 (putK1 i fi d r1) D := o1
    unfold putK1 at o1
    split at o1
    case h_2 => exact o1.elim
    rename_i b ys hr
    obtain ⟨a, vs, e1, _, _⟩ := own_lst rel1 hr
    refine ⟨.ref a, e1, ?_⟩
    rw [toS_bind] at o1
    refine opd_bindO (g := fun k r2 => R.ok (putK2 i d k r2)) (ocS D) rel1 o1 fun G2 r2 w H2 dv m2 rel2 ov o2 => ?_
    replace o2 : outS X W fr G2 (putK2 i d dv r2) D := o2
    cases dv <;> try (exact o2.elim)
    rename_i dk
    cases dk <;> try (exact o2.elim)
    rename_i k
    have ov : Dq G2 w (.int k) := ov
    cases ov
    unfold putK2 at o2
    dsimp only at o2
    split at o2
    case h_2 => exact o2.elim
    rename_i b2 ys2 hr2
    split at o2
    case h_2 => exact o2.elim
    rename_i j hj
    obtain ⟨a2, vs2, f1, f2, f3⟩ := own_lst rel2 hr2
    rw [e1] at f1
    cases f1
    exact ⟨a, vs2, k, j, rfl, rfl, f2, by rw [DqAll.length f3]; exact hj, o2 s _ ⟨G2, .refl _, rel2.write hr2 e1 ⟨_, rfl, DqAll.set (Dq.mono m2 q) j f3⟩⟩⟩
/-! ### for -/
def forL (p : Pat) (b : DS) : List PyData → DEnv → RS
  | [], r => .nx r
  | d :: ds, r => (match p.f d r with
    | none => .stuck
    | some r1 => (match b r1 with
      | .nx r2 => forL p b ds r2
      | .ct r2 => forL p b ds r2
      | .bk r2 => .nx r2
      | .rt dv r2 => .rt dv r2
      | .exc c fs r2 => .exc c fs r2
      | .stuck => .stuck))
def dFor (it : DI) (p : Pat) (b : DS) : DS := fun r => (it r).toS fun q => forL p b q.1 q.2
theorem ds_for {tg iter : Expr} {body : List Stmt} {it : DI} {p : Pat} {b : DS} {pos : Pos} (hp : PassesOwn (model X.prog X.w) X.A X.env X.xe) (hc : X.calm = true) (hi : DIt X W tg iter it) (hg : DGt X tg p) (hb : DSs X W body b)
    (hs : ∀ x, foldedSetIterable iter X.env x = pure x) : DSt X W (.For tg iter body [] pos) (dFor it p b) := fun fr =>
  ps_imp (ps_for hp hc (hi fr []) (hg fr []) (hb fr) hs) fun D s H ⟨G, r, rel, o⟩ => by
    unfold dFor at o
    rw [toS_bind] at o
    refine di_bindO (g := fun ds r1 => R.ok (forL p b ds r1)) (ocS D) rel o fun G1 r1 J H1 ds m rel1 walk o1 => ?_
    have o1 : outS X W fr G1 (forL p b ds r1) D := o1
    refine ⟨fun i n s' Hc => i ≤ ds.length ∧ n = ds.length - i ∧ ∃ G' q, Same G1 G' ∧ Rel X.K X.mg fr [] G' q s' Hc ∧ outS X W fr G' (forL p b (ds.drop i) q) D,
      ⟨ds.length, Nat.zero_le _, rfl, G1, r1, .refl _, rel1, o1⟩, ?_⟩
    rintro i n s' Hc ⟨hi, rfl, G', q, m1, relc, oc⟩
    have sub1 : Same G1 Hc := m1.trans relc.sub
    by_cases hlt : i < ds.length
    · refine .inr ⟨walk.goes i Hc sub1 hlt, fun s2 H2 => i + 1 ≤ ds.length ∧ ∃ G' q, Same G1 G' ∧ Rel X.K X.mg fr [] G' q s2 H2 ∧ outS X W fr G' (forL p b (ds.drop (i + 1)) q) D,
        fun s2 H2 ⟨z1, z2⟩ => ⟨ds.length - (i + 1), by omega, z1, rfl, z2⟩, fun x H' y => ?_⟩
      have hd : ds[i]? = some ds[i] := List.getElem?_eq_getElem hlt
      obtain ⟨Gx, mx, relx, qx⟩ := yd_rel relc m1 (walk.yields i Hc x H' _ sub1 y hd)
      rw [List.drop_eq_getElem_cons hlt] at oc
      unfold forL at oc
      split at oc
      case h_1 => exact oc.elim
      rename_i q1 hq1
      refine ⟨Gx, q, ds[i], q1, relx, qx, hq1, fun s2 rel2 _ => ⟨Gx, q1, rel2, ?_⟩⟩
      cases hb : b q1 with
      | nx r2 =>
        rw [hb] at oc
        exact fun s3 H3 ⟨G3, m3, rel3⟩ => ⟨hlt, G3, r2, (m1.trans mx).trans m3, rel3, outS.mono (mx.trans m3) oc⟩
      | ct r2 =>
        rw [hb] at oc
        exact fun s3 H3 ⟨G3, m3, rel3⟩ => ⟨hlt, G3, r2, (m1.trans mx).trans m3, rel3, outS.mono (mx.trans m3) oc⟩
      | bk r2 =>
        rw [hb] at oc
        exact fun s3 H3 z => oc s3 H3 (z.mono mx)
      | rt dv r2 =>
        rw [hb] at oc
        exact fun s3 v H3 z => oc s3 v H3 (z.mono mx)
      | exc c fs r2 =>
        rw [hb] at oc
        exact fun s3 cls d H3 z => oc s3 cls d H3 (z.mono mx)
      | stuck =>
        rw [hb] at oc
        exact oc
    · have hi' : i = ds.length := by omega
      subst hi'
      rw [List.drop_length] at oc
      exact .inl ⟨walk.stops Hc sub1, oc s' Hc ⟨G', .refl _, relc⟩⟩
/-! ### a, b = e, f -/
abbrev DP := DEnv → R (List Sl × DEnv)
def keepV (k : Bool) (dv : DV) (r : DEnv) : Option (Sl × DEnv) := match k, dv with
  | true, .own o => some (.own true o, r)
  | _, dv => (match frz dv r with
    | some (d, r1) => some (.dat d, r1)
    | none => none)
def dpNil : DP := fun r => .ok ([], r)
def dpCons (k : Bool) (f : DX) (g : DP) : DP := fun r => (f r).bind fun p => match keepV k p.1 p.2 with
  | some q => (g q.2).bind fun t => .ok (q.1 :: t.1, t.2)
  | none => .stuck
inductive Mp (G : Hp) : List V → List Sl → List (Addr × Ob) → Prop
  | nil : Mp G [] [] []
  | dat {v : V} {d : PyData} {vs : List V} {ss : List Sl} {tl : List (Addr × Ob)} : Dq G v d → Mp G vs ss tl → Mp G (v :: vs) (.dat d :: ss) tl
  | own {a : Addr} {o : Ob} {vs : List V} {ss : List Sl} {tl : List (Addr × Ob)} : Mp G vs ss tl → Mp G (.ref a :: vs) (.own true o :: ss) (tl ++ [(a, o)])
theorem Mp.len {vs : List V} {ss : List Sl} {tl : List (Addr × Ob)} (h : Mp G vs ss tl) : vs.length = ss.length := by
  induction h with
  | nil => rfl
  | dat _ _ ih => simp [ih]
  | own _ ih => simp [ih]
section
variable (X : Cx) (W : WX) (fr : Fm) (T : List (Addr × Ob))
def outP (G : Hp) (s : L2.St) (x : R (List Sl × DEnv)) (Q : List V → Hp → Prop) : Prop := match x with
  | .ok p => ∀ vs H, (∃ G' tl, Same G G' ∧ Rel X.K X.mg fr (tl ++ T) G' p.2 s H ∧ Mp G' vs p.1 tl) → Q vs H
  | .exc c fs r => ∀ cls d H, (∃ tl, XPost X fr (tl ++ T) G s c fs r cls d H) → W cls d s H
  | .stuck => False
def tDP (f : DP) : TA := fun s H Q => ∃ G r, Rel X.K X.mg fr T G r s H ∧ outP X W fr T G s (f r) Q
end
def DPs (X : Cx) (W : WX) (es : List Expr) (f : DP) : Prop := ∀ fr T, PA X es (tDP X W fr T f)
theorem outP.mono {x : R (List Sl × DEnv)} {Q : List V → Hp → Prop} (m : Same G G') (h : outP X W fr T G s x Q) : outP X W fr T G' s x Q := by
  cases x with
  | ok p => exact fun vs H ⟨G2, tl, m2, q⟩ => h vs H ⟨G2, tl, m.trans m2, q⟩
  | exc c fs r => exact fun cls d H ⟨tl, q⟩ => h cls d H ⟨tl, q.mono m⟩
  | stuck => exact h
theorem dp_nil : DPs X W [] dpNil := fun fr T => pa_imp pa_nil fun s H Q ⟨G, r, rel, o⟩ => o [] H ⟨G, [], .refl _, rel, .nil⟩
theorem Mp.mono {vs : List V} {ss : List Sl} {tl : List (Addr × Ob)} (m : Same G G') (h : Mp G vs ss tl) : Mp G' vs ss tl := by
  induction h with
  | nil => exact .nil
  | dat q _ ih => exact .dat (Dq.mono m q) ih
  | own _ ih => exact .own ih
theorem keepV_ok {k : Bool} {dv : DV} {sl : Sl} {r' : DEnv} {v : V} (h : Post X fr T G s dv r v H) (e : keepV k dv r = some (sl, r')) :
    ∃ G', Same G G' ∧ ((∃ d, sl = .dat d ∧ Rel X.K X.mg fr T G' r' s H ∧ Dq G' v d) ∨ ∃ a o, sl = .own true o ∧ v = .ref a ∧ Rel X.K X.mg fr ((a, o) :: T) G' r' s H) := by
  have via : (match frz dv r with
    | some (d, r1) => some (Sl.dat d, r1)
    | none => none) = some (sl, r') → ∃ G', Same G G' ∧ ((∃ d, sl = .dat d ∧ Rel X.K X.mg fr T G' r' s H ∧ Dq G' v d) ∨ ∃ a o, sl = .own true o ∧ v = .ref a ∧ Rel X.K X.mg fr ((a, o) :: T) G' r' s H) := fun e => by
    cases hz : frz dv r with
    | none => rw [hz] at e; cases e
    | some z =>
      rw [hz] at e
      cases e
      obtain ⟨G2, m2, rel2, q2⟩ := frz_ok h hz
      exact ⟨G2, m2, .inl ⟨_, rfl, rel2, q2⟩⟩
  cases k with
  | false => exact via e
  | true =>
    cases dv with
    | own o =>
      cases e
      obtain ⟨G1, m, a, rfl, q⟩ := h
      exact ⟨G1, m, .inr ⟨a, o, rfl, rfl, q⟩⟩
    | dat d => exact via e
    | loc i => exact via e
    | fn f => exact via e
    | scr ns => exact via e
    | pr d o => exact via e
theorem dp_cons {k : Bool} {e : Expr} {es : List Expr} {f : DX} {g : DP} (hf : DE X W e f) (hg : DPs X W es g) (hs : starEach (e :: es) X.env = (false, eval e X.env) :: starEach es X.env) : DPs X W (e :: es) (dpCons k f g) := fun fr T => by
  refine ⟨fun pos pins s σ H Q I w => ?_⟩
  -- by the frame that the first value leaves
  have tl' : TA := fun s H Q => ∃ fr T, tDP X W fr T g s H Q
  have hg' : PA X es (fun s H Q => ∃ fr T, tDP X W fr T g s H Q) := ⟨fun pos pins s σ H Q I ⟨fr, T, w⟩ => (hg fr T).run pos pins s σ H Q I w⟩
  refine (pa_cons (hf fr T) hg' hs).run pos pins s σ H Q I ?_
  obtain ⟨G, r, rel, o⟩ := w
  refine ⟨G, r, rel, ?_⟩
  unfold dpCons at o
  cases hr : f r with
  | stuck => rw [hr] at o; exact o
  | exc c fs r' => rw [hr] at o; exact fun cls d H q => o cls d H ⟨[], q⟩
  | ok p =>
    rw [hr] at o
    obtain ⟨dv, r1⟩ := p
    intro v H1 hpost
    have o : outP X W fr T G σ (match keepV k dv r1 with
      | some q => (g q.2).bind fun t => .ok (q.1 :: t.1, t.2)
      | none => .stuck) Q := o
    cases hk : keepV k dv r1 with
    | none => rw [hk] at o; exact o.elim
    | some z =>
      obtain ⟨sl, r2⟩ := z
      rw [hk] at o
      have o : outP X W fr T G σ ((g r2).bind fun t => .ok (sl :: t.1, t.2)) Q := o
      obtain ⟨G1, m, q⟩ := keepV_ok hpost hk
      rcases q with ⟨d, rfl, rel1, q1⟩ | ⟨a, ob, rfl, rfl, rel1⟩
      · refine ⟨fr, T, G1, r2, rel1, ?_⟩
        have o := outP.mono m o
        cases hz : g r2 with
        | stuck => rw [hz] at o; exact o
        | exc c fs r' => rw [hz] at o; exact o
        | ok t =>
          rw [hz] at o
          exact fun vs H2 ⟨G2, tl, m2, rel2, mp⟩ => o _ H2 ⟨G2, tl, m2, rel2, .dat (Dq.mono m2 q1) mp⟩
      · refine ⟨fr, (a, ob) :: T, G1, r2, rel1, ?_⟩
        have o := outP.mono m o
        cases hz : g r2 with
        | stuck => rw [hz] at o; exact o
        | exc c fs r' =>
          rw [hz] at o
          exact fun cls d H2 ⟨tl, q⟩ => o cls d H2 ⟨tl ++ [(a, ob)], by rw [List.append_assoc]; exact q⟩
        | ok t =>
          rw [hz] at o
          exact fun vs H2 ⟨G2, tl, m2, rel2, mp⟩ => o _ H2 ⟨G2, tl ++ [(a, ob)], m2, by rw [List.append_assoc]; exact rel2, .own mp⟩
def setAllD : List Nat → List Sl → DEnv → DEnv
  | i :: is, x :: xs, r => (setAllD is xs r).set i (some x)
  | _, _, r => r
def setAllS : List Nat → List V → L2.St → L2.St
  | i :: is, x :: xs, r => (setAllS is xs r).set i (some x)
  | _, _, r => r
theorem rel_setAll {vs : List V} {ss : List Sl} {tl : List (Addr × Ob)} (h : Mp G vs ss tl) : ∀ {is : List Nat} {T : List (Addr × Ob)}, is.length = ss.length → Rel X.K X.mg fr (tl ++ T) G r s H → Rel X.K X.mg fr T G (setAllD is ss r) (setAllS is vs s) H := by
  induction h with
  | nil =>
    intro is T hl rel
    cases is with
    | nil => exact rel
    | cons _ _ => cases hl
  | dat q _ ih =>
    intro is T hl rel
    cases is with
    | nil => cases hl
    | cons i is => exact (ih (by simpa using hl) rel).setDat q
  | own _ ih =>
    intro is T hl rel
    cases is with
    | nil => cases hl
    | cons i is =>
      rw [List.append_assoc] at rel
      exact (ih (T := _ :: T) (by simpa using hl) rel).setOwn
def tParN (is : List Nat) (ta : TA) : TS := fun D σ H => ta σ H fun vs H1 => is.length = vs.length ∧ D.nx (setAllS is vs σ) H1
/-- the stores, from the right -/
theorem stores_run {pins : List (Addr × Obj)} {Q : Unit → Shared → Prop} {E : Value → Shared → Prop} (hN : X.N.Nodup) : ∀ {is : List Nat} {xs : List Str} {vs : List V} {us : List Value} {σ : L2.St} {H : Hp} {s : Shared} {ts : List (Value → Sem Unit)} {ws : List Value},
    Paired (fun i x => X.N[i]? = some x ∧ X.env.scope.names.lookup x = some .local) is xs → is.length = vs.length → Inv X pins σ H s → Vals vs us →
    (∀ s', Inv X pins (setAllS is vs σ) H s' → wpAny (model X.prog X.w) X.A (assignInOrder ts ws) Q E s') →
    wpAny (model X.prog X.w) X.A (assignInOrder (xs.reverse.map (fun n => bindName X.env n) ++ ts) (us.reverse ++ ws)) Q E s := by
  intro is
  induction is with
  | nil =>
    intro xs vs us σ H s ts ws hp hl I r k
    cases hp
    cases vs with
    | cons _ _ => cases hl
    | nil => cases r; exact k s I
  | cons i is ih =>
    intro xs vs us σ H s ts ws hp hl I r k
    cases hp with
    | cons h1 hp =>
      cases vs with
      | nil => cases hl
      | cons v vs =>
        cases r with
        | cons rv r =>
          rename_i x xs u us
          rw [List.reverse_cons, List.map_append, List.append_assoc, List.reverse_cons, List.append_assoc]
          refine ih hp (by simpa using hl) I r fun s' I' => ?_
          exact assignInOrder_cons (wpAny_bindName (store_ok I' hN h1.1 (.inl h1.2) rv (fun s2 I2 => k s2 I2) (.inr h1.2)))
theorem ps_parN {is : List Nat} {xs : List Str} {tes es : List Expr} {ta : TA} {pt pt2 pos : Pos} {kt k2 : Nat} (hc : X.calm = true) (hN : X.N.Nodup) (hp : Paired (fun i x => X.N[i]? = some x ∧ X.env.scope.names.lookup x = some .local) is xs) (ha : PA X es ta) (hz : xs.length ≤ sizeLine)
    (hw : swappedStores [.Tuple tes kt pt] (.Tuple es k2 pt2) X.env = pure (some xs)) (hs : swapsWithSole [.Tuple tes kt pt] (.Tuple es k2 pt2) pos.line X.env = pure false) :
    PS X (.Assign [.Tuple tes kt pt] (.Tuple es k2 pt2) pos) (tParN is ta) := by
  refine ⟨fun pins s σ H D I h => ?_⟩
  rw [exec_Assign_arm]
  refine wpAny_bind (wpAny_standAt ?_)
  rw [hs]
  refine wpAny_bind (wpAny_pure ?_)
  rw [if_neg (by decide)]
  refine wpAny_bind (Tuple_ (thn (ha.run _ pins s σ H _ I h) fun us s1 ⟨vs, H1, I1, r1, hl, q1⟩ => ?_))
  have hlx : is.length = xs.length := Paired.length hp
  have hlu : vs.length = us.length := r1.length
  refine wpAny_newObj_type ?_ (by show us.toArray.size ≤ sizeLine; rw [List.size_toArray, ← hlu, ← hl, hlx]; exact hz)
  have I2 := I1.kept (t' := s1.toks) fun b o e => Heap.get?_push_of_some { cls := .type "tuple", data := .seq us.toArray } e
  rw [hw]
  refine wpAny_bind (wpAny_pure ?_)
  show wpAny (model X.prog X.w) X.A (do rule "assign.swapped-stores"; let items ← unpackItems (.ref s1.heap.objs.size) xs.length none; assignInOrder (xs.reverse.map fun n => bindName X.env n) items.reverse; pure Flow.next) _ _ _
  have hlen : xs.length = us.toArray.size := by rw [List.size_toArray, ← hlu, ← hl, hlx]
  rw [hlen]
  refine wpAny_bind (wpAny_rule (wpAny_bind (unpackItems_tuple (items := us.toArray) (I.ok.hd hc) (IsTup.new s1.heap _) fun h' hx' => ?_)))
  have I3 := I2.kept (h' := h') (t' := s1.toks) fun b o e => hx' b o (Nat.ne_of_lt (Heap.lt_size e)) e
  refine wpAny_bind ?_
  have key := stores_run (pins := pins) (ts := []) (ws := []) (Q := fun _ s' => SP X pins D .next s') (E := X.xe) hN hp hl I3 r1 fun s' I' => assignInOrder_nil ⟨_, H1, I', q1⟩
  rw [List.append_nil, List.append_nil] at key
  refine thn (by simpa using key) fun _ s' q => wpAny_pure q
def dPar (is : List Nat) (f : DP) : DS := fun r => (f r).toS fun p => if is.length = p.1.length then .nx (setAllD is p.1 p.2) else .stuck
theorem ds_par {is : List Nat} {xs : List Str} {tes es : List Expr} {f : DP} {pt pt2 pos : Pos} {kt k2 : Nat} (hc : X.calm = true) (hN : X.N.Nodup) (hp : Paired (fun i x => X.N[i]? = some x ∧ X.env.scope.names.lookup x = some .local) is xs) (ha : DPs X W es f) (hz : xs.length ≤ sizeLine)
    (hw : swappedStores [.Tuple tes kt pt] (.Tuple es k2 pt2) X.env = pure (some xs)) (hs : swapsWithSole [.Tuple tes kt pt] (.Tuple es k2 pt2) pos.line X.env = pure false) :
    DSt X W (.Assign [.Tuple tes kt pt] (.Tuple es k2 pt2) pos) (dPar is f) := fun fr =>
  ps_imp (ps_parN hc hN hp (ha fr []) hz hw hs) fun D s H ⟨G, r, rel, o⟩ => by
    refine ⟨G, r, rel, ?_⟩
    unfold dPar at o
    cases hf : f r with
    | stuck => rw [hf] at o; exact o
    | exc c fs r' => rw [hf] at o; exact fun cls d H ⟨tl, q⟩ => o s cls d H (by
        obtain ⟨G', C, da, xs, m, rel', z⟩ := q
        refine ⟨G', C, da, xs, m, ?_, z⟩
        clear z
        induction tl with
        | nil => exact rel'
        | cons t tl ih => exact ih rel'.drop)
    | ok p =>
      rw [hf] at o
      intro vs H1 ⟨G1, tl, m, rel1, mp⟩
      have o : outS X W fr G (if is.length = p.1.length then .nx (setAllD is p.1 p.2) else .stuck) D := o
      split at o
      · rename_i hl
        exact ⟨by rw [mp.len]; exact hl, o _ H1 ⟨G1, m, rel_setAll mp hl rel1⟩⟩
      · exact o.elim
end
end Dn
namespace Dn
open PySem PySem.Spec PyProof.Rows L2
/-! ### what a def computes -/
inductive RF where
  | ok (dv : DV) (os : List Ob)
  | exc (c : Str) (fs : List PyData) (os : List Ob)
  | stuck
abbrev Fn := List Sl → RF
/-- the caller's objects as the def leaves them -/
def coll : List Sl → DEnv → Option (List Ob)
  | [], _ => some []
  | .own _ _ :: sls, some (.own false o) :: r => (match coll sls r with
    | some os => some (o :: os)
    | none => none)
  | .dat _ :: sls, _ :: r => coll sls r
  | .fn _ :: sls, _ :: r => coll sls r
  | .scr _ :: sls, _ :: r => coll sls r
  | _, _ => none
def finish (dv : DV) (args : List Sl) (r : DEnv) : RF := match dv with
  | .dat d => (match coll args r with
    | some os => .ok (.dat d) os
    | none => .stuck)
  | .own o => (match coll args r with
    | some os => .ok (.own o) os
    | none => .stuck)
  | .pr d o => (match coll args r with
    | some os => .ok (.pr d o) os
    | none => .stuck)
  | _ => .stuck
def entry (n : Nat) (args : List Sl) : DEnv := args.map some ++ List.replicate (n - args.length) none
def fnOfD (n : Nat) (b : DS) : Fn := fun args => match b (entry n args) with
  | .nx r => finish (.dat .none) args r
  | .rt dv r => finish dv args r
  | .exc c fs r => (match coll args r with
    | some os => .exc c fs os
    | none => .stuck)
  | _ => .stuck
/-- the caller's objects among the arguments -/
def ownsFrom : Nat → List V → List Sl → List (Nat × Addr)
  | k, .ref a :: vs, .own _ _ :: sls => (k, a) :: ownsFrom (k + 1) vs sls
  | k, _ :: vs, _ :: sls => ownsFrom (k + 1) vs sls
  | _, _, _ => []
theorem owns_mem {a : Addr} {b : Bool} {o : Ob} : ∀ {vs : List V} {sls : List Sl} {k i : Nat}, vs[i]? = some (.ref a) → sls[i]? = some (.own b o) → (k + i, a) ∈ ownsFrom k vs sls
  | [], _, _, _, h, _ => by simp at h
  | _ :: _, [], _, _, _, h => by simp at h
  | v :: vs, sl :: sls, k, 0, h1, h2 => by
    simp at h1 h2
    subst h1; subst h2
    exact List.mem_cons_self
  | v :: vs, sl :: sls, k, i + 1, h1, h2 => by
    have ih := owns_mem (k := k + 1) (i := i) (by simpa using h1) (by simpa using h2)
    have e : k + 1 + i = k + (i + 1) := by omega
    rw [e] at ih
    unfold ownsFrom
    split
    · rename_i q1 q2
      cases q1; cases q2
      exact List.mem_cons_of_mem _ ih
    · rename_i q1 q2
      cases q1; cases q2
      exact ih
    · rename_i q1 q2
      exact absurd rfl (q2 v vs sl sls rfl)
theorem owns_of {a : Addr} : ∀ {vs : List V} {sls : List Sl} {k i : Nat}, (i, a) ∈ ownsFrom k vs sls → ∃ j b o, i = k + j ∧ vs[j]? = some (.ref a) ∧ sls[j]? = some (.own b o)
  | [], sls, k, i, h => by cases sls <;> (unfold ownsFrom at h; cases h)
  | v :: vs, [], k, i, h => by cases v <;> (unfold ownsFrom at h; cases h)
  | v :: vs, sl :: sls, k, i, h => by
    have step : (i, a) ∈ ownsFrom (k + 1) vs sls → ∃ j b o, i = k + j ∧ (v :: vs)[j]? = some (.ref a) ∧ (sl :: sls)[j]? = some (.own b o) := fun q => by
      obtain ⟨j, b, o, e, h1, h2⟩ := owns_of q
      exact ⟨j + 1, b, o, by omega, by simpa using h1, by simpa using h2⟩
    unfold ownsFrom at h
    split at h
    · rename_i q1 q2
      cases q1; cases q2
      rcases List.mem_cons.mp h with z | z
      · cases z
        exact ⟨0, _, _, rfl, rfl, rfl⟩
      · exact step z
    · rename_i q1 q2
      cases q1; cases q2
      exact step h
    · cases h
theorem nodup_snd {l : List (Nat × Addr)} {i j : Nat} {a : Addr} (h : (l.map (·.2)).Nodup) (h1 : (i, a) ∈ l) (h2 : (j, a) ∈ l) : i = j := by
  induction l with
  | nil => cases h1
  | cons x l ih =>
    rw [List.map_cons, List.nodup_cons] at h
    rcases List.mem_cons.mp h1 with e1 | e1
    · rcases List.mem_cons.mp h2 with e2 | e2
      · rw [← e1] at e2; cases e2; rfl
      · exact absurd (List.mem_map_of_mem (f := (·.2)) e2) (by rw [← e1] at h; exact h.1)
    · rcases List.mem_cons.mp h2 with e2 | e2
      · exact absurd (List.mem_map_of_mem (f := (·.2)) e1) (by rw [← e2] at h; exact h.1)
      · exact ih h.2 e1 e2
section
variable (K : PySem.W.Frag) (mg : Str → Option Value)
/-- what a def is given -/
structure ArgsOk (G H : Hp) (vs : List V) (args : List Sl) : Prop where
  sub : Same G H
  pr : Paired (fun v sl => SlOk K mg G H v sl ∧ ∀ b o, sl = .own b o → b = false) vs args
  nd : ((ownsFrom 0 vs args).map (·.2)).Nodup
def FPost (G H : Hp) (vs : List V) (args : List Sl) (dv : DV) (os : List Ob) (v : V) (H' : Hp) : Prop := ∃ G' r' s', Same G G' ∧ coll args r' = some os ∧ match dv with
  | .dat d => Rel K mg ⟨G, H, ownsFrom 0 vs args⟩ [] G' r' s' H' ∧ Dq G' v d
  | .own o => ∃ a, v = .ref a ∧ Rel K mg ⟨G, H, ownsFrom 0 vs args⟩ [(a, o)] G' r' s' H'
  | .pr d o => ∃ t a vd, v = .ref t ∧ H' t = some (.tup [vd, .ref a]) ∧ Dq G' vd d ∧ Rel K mg ⟨G, H, ownsFrom 0 vs args⟩ [(a, o)] G' r' s' H'
  | _ => False
def XFPost (G H : Hp) (vs : List V) (args : List Sl) (c : Str) (fs : List PyData) (os : List Ob) (cls : Value) (d : Option Addr) (H' : Hp) : Prop := ∃ G' r' s' C da xs, Same G G' ∧ coll args r' = some os ∧
  Rel K mg ⟨G, H, ownsFrom 0 vs args⟩ [] G' r' s' H' ∧ cls = .ref C ∧ mg c = some (.ref C) ∧ d = some da ∧ H' da = some (.xd xs) ∧ FldOk G' xs fs
def Meets' (G H : Hp) (vs : List V) (args : List Sl) (Q : VK) (E : XK) : RF → Prop
  | .ok dv os => ∀ v H', FPost K mg G H vs args dv os v H' → Q v H'
  | .exc c fs os => ∀ cls d H', XFPost K mg G H vs args c fs os cls d H' → E cls d H'
  | .stuck => False
def spD (n : Nat) (φ : Fn) : Sp := fun vs H Q E => vs.length = n ∧ ∃ G args, ArgsOk K mg G H vs args ∧ Meets' K mg G H vs args Q E (φ args)
end
theorem paired_get {A B : Type} {P : A → B → Prop} : ∀ {xs : List A} {ys : List B} {i : Nat} {y : B}, Paired P xs ys → ys[i]? = some y → ∃ x, xs[i]? = some x ∧ P x y
  | _, _, _, _, .nil, e => by simp at e
  | _, _, 0, _, .cons h _, e => by simp at e; subst e; exact ⟨_, rfl, h⟩
  | _, _, i + 1, y, .cons _ t, e => by
    obtain ⟨x, h1, h2⟩ := paired_get (i := i) (y := y) t (by simpa using e)
    exact ⟨x, by simpa using h1, h2⟩
theorem entry_some {n i : Nat} {args : List Sl} {sl : Sl} (h : (entry n args)[i]? = some (some sl)) : args[i]? = some sl := by
  unfold entry at h
  by_cases hi : i < args.length
  · rw [List.getElem?_append_left (by simpa using hi), List.getElem?_map] at h
    cases e : args[i]? with
    | none => rw [e] at h; cases h
    | some a => rw [e] at h; cases h; rfl
  · rw [List.getElem?_append_right (by simpa using hi), List.getElem?_replicate] at h
    split at h <;> cases h
theorem start_some {N : List Str} {vs : List V} {i : Nat} {v : V} (h : vs[i]? = some v) : (start N vs)[i]? = some (some v) := by
  have hi : i < vs.length := (List.getElem?_eq_some_iff.mp h).1
  unfold L2.start
  rw [List.getElem?_append_left (by simpa using hi), List.getElem?_map, h]
  rfl
theorem rel_start {K : PySem.W.Frag} {mg : Str → Option Value} {G H : Hp} {vs : List V} {args : List Sl} {N : List Str} (h : ArgsOk K mg G H vs args) : Rel K mg ⟨G, H, ownsFrom 0 vs args⟩ [] G (entry N.length args) (start N vs) H := by
  have hl : vs.length = args.length := Paired.length h.pr
  have own : ∀ {i : Nat} {b : Bool} {o : Ob} {a : Addr}, (entry N.length args)[i]? = some (some (.own b o)) → (start N vs)[i]? = some (some (.ref a)) → vs[i]? = some (.ref a) ∧ b = false ∧ (i, a) ∈ ownsFrom 0 vs args := fun {i b o a} z z2 => by
    have z := entry_some z
    obtain ⟨v, e1, e2, e3⟩ := paired_get h.pr z
    rw [start_some e1] at z2
    have e : v = .ref a := by injection z2 with z2; injection z2
    subst e
    have m := owns_mem (k := 0) e1 z
    rw [Nat.zero_add] at m
    exact ⟨e1, e3 _ _ rfl, m⟩
  refine ⟨h.sub, .refl _, fun a _ z => z, fun a o z _ => z, fun a hx => ?_, ?_, fun i sl z => ?_, fun i b o a z z2 => ?_, fun i j b o b' o' a z1 z2 z3 z4 => ?_, fun t ht => absurd ht List.not_mem_nil, fun t ht => absurd ht List.not_mem_nil, List.nodup_nil⟩
  · obtain ⟨⟨i, a'⟩, hm, rfl⟩ := List.mem_map.mp hx
    obtain ⟨j, b, o, _, e1, e2⟩ := owns_of hm
    obtain ⟨v, f1, f2, _⟩ := paired_get h.pr e2
    rw [e1] at f1
    cases f1
    obtain ⟨c, ec, _, ho, hh, _⟩ := f2
    cases ec
    exact ne_none_of hh
  · unfold entry L2.start
    rw [List.length_append, List.length_append, List.length_map, List.length_map, List.length_replicate, List.length_replicate, hl]
  · obtain ⟨v, e1, e2, _⟩ := paired_get h.pr (entry_some z)
    exact ⟨v, start_some e1, e2⟩
  · obtain ⟨_, e2, e3⟩ := own z z2
    exact .inr ⟨e2, e3⟩
  · exact nodup_snd h.nd (own z1 z2).2.2 (own z3 z4).2.2
/-! ### behind a call -/
def upd1 (r : DEnv) (j : Nat) (o : Ob) : DEnv := match r[j]? with
  | some (some (.own b _)) => r.set j (some (.own b o))
  | _ => r
def putBack : List Nat → List Ob → DEnv → DEnv
  | j :: js, o :: os, r => upd1 (putBack js os r) j o
  | _, _, r => r
/-- the caller's slots, addresses and objects that a call changed -/
structure Lk (r : DEnv) (s : L2.St) (G' H' : Hp) (L : List (Nat × Addr × Ob)) : Prop where
  at' : ∀ t, t ∈ L → (∃ b o, r[t.1]? = some (some (.own b o))) ∧ s[t.1]? = some (some (.ref t.2.1)) ∧ ObOk G' H' t.2.1 t.2.2
  nd : (L.map (·.1)).Nodup
def putL (L : List (Nat × Addr × Ob)) (r : DEnv) : DEnv := putBack (L.map (·.1)) (L.map (·.2.2)) r
theorem upd1_length (r : DEnv) (j : Nat) (o : Ob) : (upd1 r j o).length = r.length := by
  unfold upd1
  split
  · rw [List.length_set]
  · rfl
theorem upd1_ne {r : DEnv} {j i : Nat} {o : Ob} (h : j ≠ i) : (upd1 r j o)[i]? = r[i]? := by
  unfold upd1
  split
  · rw [List.getElem?_set_ne h]
  · rfl
theorem upd1_eq {r : DEnv} {j : Nat} {b : Bool} {o o' : Ob} (h : r[j]? = some (some (.own b o'))) : (upd1 r j o)[j]? = some (some (.own b o)) := by
  unfold upd1
  rw [h]
  exact List.getElem?_set_self (List.getElem?_eq_some_iff.mp h).1
theorem putL_length (r : DEnv) : ∀ L : List (Nat × Addr × Ob), (putL L r).length = r.length
  | [] => rfl
  | t :: L => (upd1_length _ _ _).trans (putL_length r L)
theorem putL_out {r : DEnv} {i : Nat} : ∀ {L : List (Nat × Addr × Ob)}, i ∉ L.map (·.1) → (putL L r)[i]? = r[i]?
  | [], _ => rfl
  | t :: L, h => (upd1_ne (fun e => h (by rw [List.map_cons, show t.1 = i from e]; exact List.mem_cons_self))).trans (putL_out fun z => h (List.mem_cons_of_mem _ z))
theorem putL_in {r : DEnv} {s : L2.St} {G' H' : Hp} : ∀ {L : List (Nat × Addr × Ob)}, Lk r s G' H' L → ∀ t, t ∈ L → ∃ b o, r[t.1]? = some (some (.own b o)) ∧ (putL L r)[t.1]? = some (some (.own b t.2.2))
  | [], _, t, ht => absurd ht List.not_mem_nil
  | u :: L, lk, t, ht => by
    have nd := lk.nd
    rw [List.map_cons, List.nodup_cons] at nd
    have lk' : Lk r s G' H' L := ⟨fun t ht => lk.at' t (List.mem_cons_of_mem _ ht), nd.2⟩
    rcases List.mem_cons.mp ht with rfl | ht
    · obtain ⟨⟨b, o, e⟩, _⟩ := lk.at' t List.mem_cons_self
      exact ⟨b, o, e, upd1_eq ((putL_out nd.1).trans e)⟩
    · obtain ⟨b, o, e1, e2⟩ := putL_in lk' t ht
      refine ⟨b, o, e1, ?_⟩
      have ne : u.1 ≠ t.1 := fun e => nd.1 (by rw [e]; exact List.mem_map_of_mem (f := (·.1)) ht)
      exact (upd1_ne ne).trans e2
theorem Rel.after {K : PySem.W.Frag} {mg : Str → Option Value} {fr : Fm} {T T' : List (Addr × Ob)} {G G' H H' : Hp} {r r' : DEnv} {s s' : L2.St} {own : List (Nat × Addr)} {L : List (Nat × Addr × Ob)}
    (h : Rel K mg fr T G r s H) (h' : Rel K mg ⟨G, H, own⟩ T' G' r' s' H') (lk : Lk r s G' H' L) (hx : ∀ a, a ∈ own.map (·.2) → a ∈ L.map (·.2.1)) : Rel K mg fr T G' (putL L r) s H' := by
  have m : Same G G' := h'.g0
  have keep : ∀ a o, H a = some o → a ∉ L.map (·.2.1) → H' a = some o := fun a o z n => h'.keep a o z fun q => n (hx a q)
  have newN : ∀ a, H a ≠ none → G a = none → G' a = none := fun a z g => by
    cases q : G' a with
    | none => rfl
    | some o => exact absurd g (h'.new a z (ne_none_of q))
  -- an address of L is that of its slot
  have lad : ∀ a, a ∈ L.map (·.2.1) → ∃ t, t ∈ L ∧ t.2.1 = a := fun a q => List.mem_map.mp q
  have apartL : ∀ {i : Nat} {b : Bool} {o : Ob} {c : Addr}, r[i]? = some (some (.own b o)) → s[i]? = some (some (.ref c)) → i ∉ L.map (·.1) → c ∉ L.map (·.2.1) := fun {i b o c} z1 z2 n q => by
    obtain ⟨t, ht, rfl⟩ := lad c q
    obtain ⟨⟨b', o', e1⟩, e2, _⟩ := lk.at' t ht
    exact n (by rw [h.apart i t.1 b o b' o' t.2.1 z1 z2 e1 e2]; exact List.mem_map_of_mem (f := (·.1)) ht)
  have getO : ∀ {i : Nat} {sl : Sl}, (putL L r)[i]? = some (some sl) → (∃ t b o, t ∈ L ∧ t.1 = i ∧ sl = .own b t.2.2 ∧ r[i]? = some (some (.own b o))) ∨ (i ∉ L.map (·.1) ∧ r[i]? = some (some sl)) := fun {i sl} z => by
    by_cases hi : i ∈ L.map (·.1)
    · obtain ⟨t, ht, rfl⟩ := List.mem_map.mp hi
      obtain ⟨b, o, e1, e2⟩ := putL_in lk t ht
      rw [z] at e2
      cases e2
      exact .inl ⟨t, b, o, ht, rfl, rfl, e1⟩
    · rw [putL_out hi] at z
      exact .inr ⟨hi, z⟩
  have getOwn : ∀ {i : Nat} {b : Bool} {o : Ob}, (putL L r)[i]? = some (some (.own b o)) → ∃ o', r[i]? = some (some (.own b o')) := fun {i b o} z => by
    rcases getO z with ⟨t, b', o', _, _, e, e'⟩ | ⟨_, e⟩
    · cases e; exact ⟨o', e'⟩
    · exact ⟨o, e⟩
  refine ⟨h'.sub, h.g0.trans m, fun a z q => ?_, fun a o z n => ?_, fun a q => ?_, by rw [putL_length]; exact h.len, fun i sl z => ?_, fun i b o a z z2 => ?_, fun i j b o b' o' a z1 z2 z3 z4 => ?_, fun t ht => ?_, fun t ht i b o z => ?_, h.tnd⟩
  · cases hz : H a with
    | none => exact absurd (h.free hz) z
    | some o => exact h.new a z (h'.new a (ne_none_of hz) q)
  · have z' := h.keep a o z n
    refine keep a o z' fun q => ?_
    obtain ⟨t, ht, rfl⟩ := lad a q
    obtain ⟨⟨b, o', e1⟩, e2, _⟩ := lk.at' t ht
    rcases h.home t.1 b o' t.2.1 e1 e2 with ⟨_, y⟩ | ⟨_, y⟩
    · rw [y] at z; cases z
    · exact n (List.mem_map_of_mem (f := (·.2)) y)
  · by_cases hl : a ∈ L.map (·.2.1)
    · obtain ⟨t, ht, rfl⟩ := lad a hl
      obtain ⟨_, _, _, ho, hh, _⟩ := lk.at' t ht
      exact ne_none_of hh
    · cases hz : H a with
      | none => exact absurd hz (h.exs a q)
      | some o => exact ne_none_of (keep a o hz hl)
  · rcases getO z with ⟨t, b, o, ht, rfl, rfl, e⟩ | ⟨ni, e⟩
    · obtain ⟨_, e2, e3⟩ := lk.at' t ht
      exact ⟨.ref t.2.1, e2, t.2.1, rfl, e3⟩
    · obtain ⟨v, ev, q⟩ := h.slot i sl e
      refine ⟨v, ev, ?_⟩
      cases sl with
      | dat d => exact Dq.mono m q
      | fn f => exact q
      | scr ns => obtain ⟨a, e', q⟩ := q; exact ⟨a, e', SqL.mono m q⟩
      | own b o =>
        obtain ⟨c, rfl, g, ho, hh, q⟩ := q
        exact ⟨c, rfl, newN c (ne_none_of hh) g, ho, keep c ho hh (apartL e ev ni), HoOk.mono m q⟩
  · obtain ⟨o', e⟩ := getOwn z
    exact h.home i b o' a e z2
  · obtain ⟨o1, e1⟩ := getOwn z1
    obtain ⟨o2, e2⟩ := getOwn z3
    exact h.apart i j b o1 b' o2 a e1 z2 e2 z4
  · obtain ⟨⟨g, ho, hh, q⟩, f⟩ := h.tmp t ht
    refine ⟨⟨newN t.1 (ne_none_of hh) g, ho, keep t.1 ho hh fun q => ?_, HoOk.mono m q⟩, f⟩
    obtain ⟨u, hu, eu⟩ := lad _ q
    obtain ⟨⟨b, o', e1⟩, e2, _⟩ := lk.at' u hu
    exact h.tapart t ht u.1 b o' e1 (by rw [e2, eu])
  · obtain ⟨o', e⟩ := getOwn z
    exact h.tapart t ht i b o' e
/-- and a new object that the call handed over -/
theorem Rel.add {K : PySem.W.Frag} {mg : Str → Option Value} {fr : Fm} {T : List (Addr × Ob)} {G' H H' : Hp} {r : DEnv} {s : L2.St} {a : Addr} {o : Ob} (h : Rel K mg fr T G' r s H') (ob : ObOk G' H' a o) (hn : H a = none) (fn : fr.H a = none)
    (h1 : ∀ (i : Nat) (b : Bool) (o : Ob) (c : Addr), r[i]? = some (some (.own b o)) → s[i]? = some (some (.ref c)) → H c ≠ none) (h2 : ∀ t, t ∈ T → H t.1 ≠ none) : Rel K mg fr ((a, o) :: T) G' r s H' := by
  refine { h with tmp := fun t ht => ?_, tapart := fun t ht i b ob z z2 => ?_, tnd := ?_ }
  · rcases List.mem_cons.mp ht with rfl | ht
    · exact ⟨ob, fn⟩
    · exact h.tmp t ht
  · rcases List.mem_cons.mp ht with rfl | ht
    · exact h1 i b _ _ z z2 hn
    · exact h.tapart t ht i b ob z z2
  · rw [List.map_cons, List.nodup_cons]
    refine ⟨fun hm => ?_, h.tnd⟩
    obtain ⟨t, ht, et⟩ := List.mem_map.mp hm
    exact h2 t ht (by rw [et]; exact hn)
end Dn
namespace Dn
open PySem PySem.Spec PyProof.Rows L2
/-! ### arguments made ready -/
/-- m = false: what is given as data becomes data -/
def frzA : List Bool → List DV → DEnv → Option (List DV × DEnv)
  | false :: ms, .loc j :: dvs, r => (match frz (.loc j) r with
    | some (d, r1) => (match frzA ms dvs r1 with
      | some (q, r2) => some (.dat d :: q, r2)
      | none => none)
    | none => none)
  | _ :: ms, dv :: dvs, r => (match frzA ms dvs r with
    | some (q, r2) => some (dv :: q, r2)
    | none => none)
  | [], [], r => some ([], r)
  | _, _, _ => none
def colA : List DV → DEnv → Option (List Sl × List Nat)
  | [], _ => some ([], [])
  | .dat d :: dvs, r => (match colA dvs r with
    | some (q, js) => some (.dat d :: q, js)
    | none => none)
  | .fn d :: dvs, r => (match colA dvs r with
    | some (q, js) => some (.fn d :: q, js)
    | none => none)
  | .scr d :: dvs, r => (match colA dvs r with
    | some (q, js) => some (.scr d :: q, js)
    | none => none)
  | .loc j :: dvs, r => (match r[j]? with
    | some (some (.own _ o)) => (match colA dvs r with
      | some (q, js) => some (.own false o :: q, j :: js)
      | none => none)
    | _ => none)
  | .own _ :: _, _ => none
  | .pr _ _ :: _, _ => none
def runF (x : RF) (js : List Nat) (r : DEnv) : R (DV × DEnv) := match x with
  | .ok dv os => .ok (dv, putBack js os r)
  | .exc c fs os => .exc c fs (putBack js os r)
  | .stuck => .stuck
def callK (φ : Fn) (md : List Bool) (dvs : List DV) (r : DEnv) : R (DV × DEnv) := match frzA md dvs r with
  | some (q, r1) => (match colA q r1 with
    | some (args, js) => if js.Nodup then runF (φ args) js r1 else .stuck
    | none => .stuck)
  | none => .stuck
section
variable {X : Cx} {W : WX} {fr : Fm} {T : List (Addr × Ob)} {G G' : Hp} {r : DEnv} {s : L2.St} {H : Hp}
theorem frzA_ok : ∀ {ms : List Bool} {dvs dvs' : List DV} {vs : List V} {r r' : DEnv} {G : Hp}, Rel X.K X.mg fr T G r s H → Paired (OpV X G s) vs dvs → frzA ms dvs r = some (dvs', r') → ∃ G', Same G G' ∧ Rel X.K X.mg fr T G' r' s H ∧ Paired (OpV X G' s) vs dvs'
  | [], [], dvs', vs, r, r', G, rel, p, e => by cases e; cases p; exact ⟨G, .refl _, rel, .nil⟩
  | [], _ :: _, dvs', vs, r, r', G, rel, p, e => by cases e
  | m :: ms, [], dvs', vs, r, r', G, rel, p, e => by cases m <;> cases e
  | m :: ms, dv :: dvs, dvs', vs, r, r', G, rel, p, e => by
    cases p with
    | cons hv pt =>
      rename_i v vs
      have plain : (match frzA ms dvs r with
        | some (q, r2) => some (dv :: q, r2)
        | none => none) = some (dvs', r') → ∃ G', Same G G' ∧ Rel X.K X.mg fr T G' r' s H ∧ Paired (OpV X G' s) (v :: vs) dvs' := fun e => by
        cases hz : frzA ms dvs r with
        | none => rw [hz] at e; cases e
        | some z =>
          obtain ⟨q, r2⟩ := z
          rw [hz] at e
          cases e
          obtain ⟨G1, m1, rel1, p1⟩ := frzA_ok rel pt hz
          exact ⟨G1, m1, rel1, .cons (hv.mono m1) p1⟩
      cases m with
      | true => exact plain (by cases dv <;> exact e)
      | false =>
        cases dv with
        | dat d => exact plain e
        | own d => exact plain e
        | fn d => exact plain e
        | scr d => exact plain e
        | pr d o => exact plain e
        | loc j =>
          have e : (match frz (.loc j) r with
            | some (d, r1) => (match frzA ms dvs r1 with
              | some (q, r2) => some (.dat d :: q, r2)
              | none => none)
            | none => none) = some (dvs', r') := e
          cases hf : frz (.loc j) r with
          | none => rw [hf] at e; cases e
          | some z =>
            obtain ⟨d, r1⟩ := z
            rw [hf] at e
            have e : (match frzA ms dvs r1 with
              | some (q, r2) => some (.dat d :: q, r2)
              | none => none) = some (dvs', r') := e
            have post : Post X fr T G s (.loc j) r v H := ⟨G, .refl _, rel, hv⟩
            obtain ⟨G1, m1, rel1, q1⟩ := frz_ok post hf
            cases hz : frzA ms dvs r1 with
            | none => rw [hz] at e; cases e
            | some z =>
              obtain ⟨q, r2⟩ := z
              rw [hz] at e
              cases e
              obtain ⟨G2, m2, rel2, p2⟩ := frzA_ok rel1 (paired_mono m1 pt) hz
              exact ⟨G2, m1.trans m2, rel2, .cons (Dq.mono m2 q1) p2⟩
/-- the objects among the arguments: their places in the list, slots, addresses -/
inductive Ar (r : DEnv) (s : L2.St) : Nat → List V → List Sl → List Nat → List (Nat × Addr) → Prop
  | nil (k : Nat) : Ar r s k [] [] [] []
  | pass {k : Nat} {v : V} {sl : Sl} {vs : List V} {sls : List Sl} {js : List Nat} {own : List (Nat × Addr)} : (∀ b o, sl ≠ .own b o) → Ar r s (k + 1) vs sls js own → Ar r s k (v :: vs) (sl :: sls) js own
  | own {k j : Nat} {a : Addr} {b : Bool} {o : Ob} {vs : List V} {sls : List Sl} {js : List Nat} {own : List (Nat × Addr)} : r[j]? = some (some (.own b o)) → s[j]? = some (some (.ref a)) → Ar r s (k + 1) vs sls js own →
      Ar r s k (.ref a :: vs) (.own false o :: sls) (j :: js) ((k, a) :: own)
theorem ar_owns {k : Nat} {vs : List V} {sls : List Sl} {js : List Nat} {own : List (Nat × Addr)} (h : Ar r s k vs sls js own) : own = ownsFrom k vs sls := by
  induction h with
  | nil k => rfl
  | @pass k v sl vs sls js own n _ ih =>
    rw [ih]
    cases sl with
    | own b o => exact absurd rfl (n b o)
    | dat d => cases v <;> rfl
    | fn d => cases v <;> rfl
    | scr d => cases v <;> rfl
  | own _ _ _ ih => rw [ih]; rfl
theorem ar_js {k : Nat} {vs : List V} {sls : List Sl} {js : List Nat} {own : List (Nat × Addr)} (h : Ar r s k vs sls js own) : Paired (fun j (p : Nat × Addr) => (∃ b o, r[j]? = some (some (.own b o))) ∧ s[j]? = some (some (.ref p.2))) js own := by
  induction h with
  | nil k => exact .nil
  | pass _ _ ih => exact ih
  | own h1 h2 _ ih => exact .cons ⟨⟨_, _, h1⟩, h2⟩ ih
theorem ar_nd {js : List Nat} {own : List (Nat × Addr)} (rel : Rel X.K X.mg fr T G r s H) (p : Paired (fun j (p : Nat × Addr) => (∃ b o, r[j]? = some (some (.own b o))) ∧ s[j]? = some (some (.ref p.2))) js own) (nd : js.Nodup) : (own.map (·.2)).Nodup := by
  induction p with
  | nil => exact List.nodup_nil
  | @cons j q js own h t ih =>
    rw [List.nodup_cons] at nd
    rw [List.map_cons, List.nodup_cons]
    refine ⟨fun hm => ?_, ih nd.2⟩
    obtain ⟨u, hu, eu⟩ := List.mem_map.mp hm
    obtain ⟨i, hi⟩ := List.getElem?_of_mem hu
    obtain ⟨j', e1, ⟨b, o, e2⟩, e3⟩ := paired_get t hi
    obtain ⟨⟨b0, o0, f2⟩, f3⟩ := h
    rw [eu] at e3
    have := rel.apart j j' b0 o0 b o q.2 f2 f3 e2 e3
    rw [this] at nd
    exact nd.1 (List.mem_of_getElem? e1)
theorem colA_ok : ∀ {dvs : List DV} {vs : List V} {args : List Sl} {js : List Nat} {k : Nat}, Rel X.K X.mg fr T G r s H → Paired (OpV X G s) vs dvs → colA dvs r = some (args, js) →
    Paired (fun v sl => SlOk X.K X.mg G H v sl ∧ ∀ b o, sl = .own b o → b = false) vs args ∧ ∃ own, Ar r s k vs args js own
  | [], vs, args, js, k, rel, p, e => by cases e; cases p; exact ⟨.nil, [], .nil k⟩
  | dv :: dvs, vs, args, js, k, rel, p, e => by
    cases p with
    | cons hv pt =>
      rename_i v vs
      have plain : ∀ sl : Sl, (∀ b o, sl ≠ .own b o) → SlOk X.K X.mg G H v sl → (match colA dvs r with
        | some (q, js) => some (sl :: q, js)
        | none => none) = some (args, js) → Paired (fun v sl => SlOk X.K X.mg G H v sl ∧ ∀ b o, sl = .own b o → b = false) (v :: vs) args ∧ ∃ own, Ar r s k (v :: vs) args js own := fun sl n ok e => by
        cases hz : colA dvs r with
        | none => rw [hz] at e; cases e
        | some z =>
          obtain ⟨q, js'⟩ := z
          rw [hz] at e
          cases e
          obtain ⟨p1, own, p2⟩ := colA_ok (k := k + 1) rel pt hz
          exact ⟨.cons ⟨ok, fun b o z => absurd z (n b o)⟩ p1, own, .pass n p2⟩
      cases dv with
      | dat d => exact plain (.dat d) (fun _ _ z => by cases z) hv e
      | fn d => exact plain (.fn d) (fun _ _ z => by cases z) hv e
      | scr d => exact plain (.scr d) (fun _ _ z => by cases z) hv e
      | own o => cases e
      | pr d o => cases e
      | loc j =>
        have e : (match r[j]? with
          | some (some (.own _ o)) => (match colA dvs r with
            | some (q, js) => some (.own false o :: q, j :: js)
            | none => none)
          | _ => none) = some (args, js) := e
        split at e
        · rename_i b o hj
          cases hz : colA dvs r with
          | none => rw [hz] at e; cases e
          | some z =>
            obtain ⟨q, js'⟩ := z
            rw [hz] at e
            cases e
            obtain ⟨p1, own, p2⟩ := colA_ok (k := k + 1) rel pt hz
            obtain ⟨v', ev, a, ea, ob⟩ := rel.slot j _ hj
            have hv : s[j]? = some (some v) := hv
            rw [hv] at ev
            obtain rfl : v = v' := by injection ev with ev; injection ev
            subst ea
            exact ⟨.cons ⟨⟨a, rfl, ob⟩, fun b o z => by cases z; rfl⟩ p1, (k, a) :: own, .own hj hv p2⟩
        · cases e
/-- the objects as the def left them -/
theorem coll_ok {G0 H0 : Hp} {own0 : List (Nat × Addr)} {T' : List (Addr × Ob)} {r' : DEnv} {s' : L2.St} {H' : Hp} (hu : ∀ i a b, (i, a) ∈ own0 → (i, b) ∈ own0 → a = b) (rel' : Rel X.K X.mg ⟨G0, H0, own0⟩ T' G' r' s' H') {k : Nat} {vs : List V} {args : List Sl} {js : List Nat} {own : List (Nat × Addr)} (h : Ar r s k vs args js own) :
    ∀ {os : List Ob}, (∀ p, p ∈ own → p ∈ own0) → coll args (r'.drop k) = some os → ∃ L : List (Nat × Addr × Ob), L.map (·.1) = js ∧ L.map (·.2.2) = os ∧ L.map (·.2.1) = own.map (·.2) ∧ ∀ t, t ∈ L → (∃ b o, r[t.1]? = some (some (.own b o))) ∧ s[t.1]? = some (some (.ref t.2.1)) ∧ ObOk G' H' t.2.1 t.2.2 := by
  induction h with
  | nil k =>
    intro os _ e
    cases e
    exact ⟨[], rfl, rfl, rfl, fun t ht => absurd ht List.not_mem_nil⟩
  | @pass k v sl vs sls js own n _ ih =>
    intro os hm e
    have e : ∃ y ys, r'.drop k = y :: ys ∧ coll sls ys = some os := by
      cases hd : r'.drop k with
      | nil => rw [hd] at e; cases sl <;> cases e
      | cons y ys =>
        rw [hd] at e
        refine ⟨y, ys, rfl, ?_⟩
        cases sl with
        | own b o => exact absurd rfl (n b o)
        | dat d => exact e
        | fn d => exact e
        | scr d => exact e
    obtain ⟨y, ys, e1, e2⟩ := e
    have e3 : r'.drop (k + 1) = ys := by
      have := congrArg (List.drop 1) e1
      rw [List.drop_drop] at this
      exact this
    rw [← e3] at e2
    exact ih hm e2
  | @own k j a b o vs sls js own h1 h2 _ ih =>
    intro os hm e
    cases hd : r'.drop k with
    | nil => rw [hd] at e; cases e
    | cons y ys =>
      rw [hd] at e
      have e3 : r'.drop (k + 1) = ys := by
        have := congrArg (List.drop 1) hd
        rw [List.drop_drop] at this
        exact this
      have hy : r'[k]? = some y := by
        have := congrArg (·[0]?) hd
        simpa using this
      cases y with
      | none => cases e
      | some y =>
        cases y with
        | dat d => cases e
        | fn d => cases e
        | scr d => cases e
        | own b' o' =>
          cases b' with
          | true => cases e
          | false =>
            have e : (match coll sls ys with
              | some os => some (o' :: os)
              | none => none) = some os := e
            cases hc : coll sls ys with
            | none => rw [hc] at e; cases e
            | some os' =>
              rw [hc] at e
              cases e
              rw [← e3] at hc
              obtain ⟨L, l1, l2, l3, l4⟩ := ih (fun p hp => hm p (List.mem_cons_of_mem _ hp)) hc
              obtain ⟨v', ev, a', ea, ob⟩ := rel'.slot k _ hy
              subst ea
              have aa : a' = a := by
                rcases rel'.home k _ _ a' hy ev with ⟨z, _⟩ | ⟨_, z⟩
                · cases z
                · exact hu k a' a z (hm _ List.mem_cons_self)
              subst aa
              refine ⟨(j, a', o') :: L, by rw [List.map_cons, l1], by rw [List.map_cons, l2], by rw [List.map_cons, l3]; rfl, fun t ht => ?_⟩
              rcases List.mem_cons.mp ht with rfl | ht
              · exact ⟨⟨b, o, h1⟩, h2, ob⟩
              · exact l4 t ht
theorem owns_fun {vs : List V} {sls : List Sl} {k i : Nat} {a b : Addr} (h1 : (i, a) ∈ ownsFrom k vs sls) (h2 : (i, b) ∈ ownsFrom k vs sls) : a = b := by
  obtain ⟨j, _, _, e1, e2, _⟩ := owns_of h1
  obtain ⟨j', _, _, f1, f2, _⟩ := owns_of h2
  have : j = j' := by omega
  subst this
  rw [e2] at f2
  cases f2
  rfl
theorem call_ok {φ : Fn} {md : List Bool} {dvs : List DV} {vs : List V} {n : Nat} {Q : VK} (hn : vs.length = n) (rel : Rel X.K X.mg fr T G r s H) (p : Paired (OpV X G s) vs dvs) (o : out X W fr T G s (callK φ md dvs r) Q) :
    spD X.K X.mg n φ vs H Q (WE W s) := by
  unfold callK at o
  cases h1 : frzA md dvs r with
  | none => rw [h1] at o; exact o.elim
  | some z =>
    obtain ⟨q, r1⟩ := z
    rw [h1] at o
    have o : out X W fr T G s (match colA q r1 with
      | some (args, js) => if js.Nodup then runF (φ args) js r1 else .stuck
      | none => .stuck) Q := o
    obtain ⟨G1, m1, rel1, p1⟩ := frzA_ok rel p h1
    cases h2 : colA q r1 with
    | none => rw [h2] at o; exact o.elim
    | some z =>
      obtain ⟨args, js⟩ := z
      rw [h2] at o
      have o : out X W fr T G s (if js.Nodup then runF (φ args) js r1 else .stuck) Q := o
      split at o
      case isFalse => exact o.elim
      rename_i nd
      obtain ⟨p2, own, ar⟩ := colA_ok (k := 0) rel1 p1 h2
      have pj := ar_js ar
      have ndo := ar_nd rel1 pj nd
      have eo := ar_owns ar
      rw [eo] at ndo
      refine ⟨hn, G1, args, ⟨rel1.sub, p2, ndo⟩, ?_⟩
      have back : ∀ {T' : List (Addr × Ob)} {G' H' : Hp} {r' : DEnv} {s' : L2.St} {os : List Ob}, Rel X.K X.mg ⟨G1, H, ownsFrom 0 vs args⟩ T' G' r' s' H' → coll args r' = some os → Rel X.K X.mg fr T G' (putBack js os r1) s H' := fun {T' G' H' r' s' os} rel' hc => by
        obtain ⟨L, l1, l2, l3, l4⟩ := coll_ok (fun i a b => owns_fun) rel' ar (os := os) (fun p hp => by rw [← eo]; exact hp) hc
        have := rel1.after rel' (L := L) ⟨l4, by rw [l1]; exact nd⟩ fun a ha => by rw [l3, eo]; exact ha
        unfold putL at this
        rw [l1, l2] at this
        exact this
      have ownN : ∀ {r2 : DEnv}, (∀ (i : Nat) (b : Bool) (o : Ob), r2[i]? = some (some (.own b o)) → ∃ o', r1[i]? = some (some (.own b o'))) → ∀ (i : Nat) (b : Bool) (o : Ob) (c : Addr), r2[i]? = some (some (.own b o)) → s[i]? = some (some (.ref c)) → H c ≠ none := fun {r2} hh i b o c z z2 => by
        obtain ⟨o', e⟩ := hh i b o z
        obtain ⟨v, ev, c', ec, _, ho, hho, _⟩ := rel1.slot i _ e
        rw [z2] at ev
        cases ev
        cases ec
        exact ne_none_of hho
      have pbO : ∀ {os : List Ob} {js : List Nat} (i : Nat) (b : Bool) (o : Ob), (putBack js os r1)[i]? = some (some (.own b o)) → ∃ o', r1[i]? = some (some (.own b o')) := by
        intro os js
        induction js generalizing os with
        | nil => intro i b o z; exact ⟨o, z⟩
        | cons j js ih =>
          intro i b o z
          cases os with
          | nil => exact ⟨o, z⟩
          | cons ob os =>
            have z : (upd1 (putBack js os r1) j ob)[i]? = some (some (.own b o)) := z
            unfold upd1 at z
            split at z
            · rename_i b' o' hj
              rcases set_some z with ⟨rfl, z, _⟩ | ⟨_, z⟩
              · cases z
                exact ih _ _ _ hj
              · exact ih _ _ _ z
            · exact ih _ _ _ z
      cases hφ : φ args with
      | stuck => rw [hφ] at o; exact o
      | exc c fs os =>
        rw [hφ] at o
        intro cls d H' ⟨G', r', s', C, da, xs, m', hc, rel', z⟩
        exact o cls d H' ⟨G', C, da, xs, m1.trans m', back rel' hc, z⟩
      | ok dv os =>
        rw [hφ] at o
        intro v H' ⟨G', r', s', m', hc, z⟩
        cases dv with
        | loc i => exact z.elim
        | fn i => exact z.elim
        | scr i => exact z.elim
        | pr d ob =>
          obtain ⟨t, a, vd, rfl, ht, dd, rel'⟩ := z
          have hH : H a = none := (rel'.tmp _ List.mem_cons_self).2
          refine o _ H' ⟨G', m1.trans m', t, a, vd, rfl, ht, dd, Rel.add (H := H) (back rel' hc) (rel'.tmp _ List.mem_cons_self).1 hH (rel1.free hH) (ownN pbO) fun t ht => ?_⟩
          obtain ⟨_, ho, hh, _⟩ := (rel1.tmp t ht).1
          exact ne_none_of hh
        | dat d => exact o v H' ⟨G', m1.trans m', back z.1 hc, z.2⟩
        | own ob =>
          obtain ⟨a, rfl, rel'⟩ := z
          have hH : H a = none := (rel'.tmp _ List.mem_cons_self).2
          refine o _ H' ⟨G', m1.trans m', a, rfl, Rel.add (H := H) (back rel' hc) (rel'.tmp _ List.mem_cons_self).1 hH (rel1.free hH) (ownN pbO) fun t ht => ?_⟩
          obtain ⟨_, ho, hh, _⟩ := (rel1.tmp t ht).1
          exact ne_none_of hh
end
/-! ### defs -/
/-- a def keeps its promise wherever no guard stands -/
structure FnG (P : Program) (w : World) (K : PySem.W.Frag) (mg : Str → Option Value) (base : Heap) (k : Nat) (f : Addr) (fd : FuncData) (ps : List Str) (sp : Sp) : Prop where
  run : ∀ (A : Around) (outer : List Env) (s : Shared) (H : Hp) (args : Args) (us : List Value) (vs : List V) (Q : VK) (E : XK), Room k A → A.guards = some [] → Env0 P w K mg base A outer s H → BindsTo s fd args (ps.zip us) → Vals vs us → sp vs H Q E →
    codeAny (model P w) A (.call (.ref f) args) (CR (L2.CX P w) outer P w H s Q E) s
theorem FnG.up {P : Program} {w : World} {K : PySem.W.Frag} {mg : Str → Option Value} {base : Heap} {j k : Nat} {f : Addr} {fd : FuncData} {ps : List Str} {sp : Sp} (F : FnG P w K mg base j f fd ps sp) (h : j ≤ k) : FnG P w K mg base k f fd ps sp :=
  ⟨fun A outer s H args us vs Q E hr => F.run A outer s H args us vs Q E (hr.mono h)⟩
abbrev bodyX (P : Program) (w : World) (K : PySem.W.Frag) (mg : Str → Option Value) (base : Heap) (N : List Str) (qual : Str) (scope : Scope) (f : Addr) (cd : Value) (A : Around) (outer : List Env) (s : Shared) (H : Hp) (E : XK) : Cx :=
  cxOf (L2.CX P w) P w K mg base N qual scope f cd A outer s H E
theorem fnG_of {P : Program} {w : World} {K : PySem.W.Frag} {mg : Str → Option Value} {base : Heap} {x qual : Str} {params : Arguments} {body : List Stmt} {scope : Scope} {dvs : List V} {kws : List (Str × V)} {f : Addr} {fd : FuncData} {N ps : List Str} {k : Nat} {b : DS}
    (F : FunD K x qual params body scope dvs kws f fd) (S : FnScope N ps scope)
    (hb : ∀ (cdv : Value) (A : Around) (outer : List Env) (s : Shared) (H : Hp) (E : XK), Room k (A.deeper (envOfC qual scope s.heap.objs.size f cdv)) → A.guards = some [] →
      DSs (bodyX P w K mg base N qual scope f cdv A outer s H E) (fun cls d _ H => E cls d H) body b) : FnG P w K mg base (k + 1) f fd ps (spD K mg ps.length (fnOfD N.length b)) := by
  obtain ⟨oc, od, dV, kV, doc, pm, an, cdv, ct, osl, rfl, lk, hcd, _, _⟩ := F.ex
  refine ⟨fun A outer s H args us vs Q E room gd e0 bind rv sp => ?_⟩
  obtain ⟨hl, G, sls, aok, hφ⟩ := sp
  have inK : K.In s.heap := e0.mod.kin.keeps fun b o e => (e0.bs b o e).1
  have nol : s.heap.NoLimit := e0.mod.nolimit.keeps fun b o e => (e0.bs b o e).1
  refine codeAny_call_function room.depth (inK _ _ lk) rfl S.co S.gen rfl (PySem.W.codeRec_of inK hcd) (bind _ _ _ _ ?_)
  refine wpAny_newFunctionEnv_cells S.kind (fun ⟨n, v⟩ hy => ?_) fun env he s1 inc => ?_
  · rcases S.par n (List.of_mem_zip hy).1 with q | q
    · exact .inl q
    · exact .inr ⟨q, PySem.W.cellsFrom_some _ _ _ (.inl q)⟩
  subst he
  refine ⟨nol.keeps inc.toInCall.keep, codeAny_func ?_⟩
  have I : Inv (bodyX P w K mg base N qual scope f cdv A outer s H E) [] (L2.start N vs) H s1 := inv_start S room.hd e0 hl rv inc
  have rel := rel_start (N := N) aok
  have run := (hb cdv A outer s H E (room.deeper _) gd ⟨G, H, ownsFrom 0 vs sls⟩).run [] s1 (L2.start N vs) H { nx := fun _ H' => Q .non H', rt := Q } I
  refine wpAny_mono (run ⟨G, _, rel, ?_⟩) (fun fl s' hs => ?_) fun e s' hs => hs
  · have done : ∀ {dv : DV} {r : DEnv} {s' : L2.St} {v : V} {H' : Hp}, Meets' K mg G H vs sls Q E (finish dv sls r) → Post (bodyX P w K mg base N qual scope f cdv A outer s H E) ⟨G, H, ownsFrom 0 vs sls⟩ [] G s' dv r v H' → Q v H' := fun {dv r s' v H'} hq ⟨G', m, z⟩ => by
      unfold finish at hq
      cases dv with
      | loc i => exact hq.elim
      | fn i => exact hq.elim
      | scr i => exact hq.elim
      | dat d =>
        dsimp only at hq
        cases hc : coll sls r with
        | none => rw [hc] at hq; exact hq.elim
        | some os => rw [hc] at hq; exact hq v H' ⟨G', r, s', m, hc, z⟩
      | own o =>
        dsimp only at hq
        cases hc : coll sls r with
        | none => rw [hc] at hq; exact hq.elim
        | some os => rw [hc] at hq; exact hq v H' ⟨G', r, s', m, hc, z⟩
      | pr d o =>
        dsimp only at hq
        cases hc : coll sls r with
        | none => rw [hc] at hq; exact hq.elim
        | some os => rw [hc] at hq; exact hq v H' ⟨G', r, s', m, hc, z⟩
    unfold fnOfD at hφ
    cases hr : b (entry N.length sls) with
    | stuck => rw [hr] at hφ; exact hφ
    | bk r => rw [hr] at hφ; exact hφ.elim
    | ct r => rw [hr] at hφ; exact hφ.elim
    | nx r =>
      rw [hr] at hφ
      exact fun s' H' ⟨G', m, rel'⟩ => done (dv := .dat .none) (r := r) hφ ⟨G', m, rel', .non⟩
    | rt dv r =>
      rw [hr] at hφ
      exact fun s' v H' z => done (dv := dv) (r := r) hφ z
    | exc c fs r =>
      rw [hr] at hφ
      replace hφ : Meets' K mg G H vs sls Q E (match coll sls r with
        | some os => .exc c fs os
        | none => .stuck) := hφ
      intro s' cls d H' ⟨G', C, da, xs, m, z⟩
      cases hc : coll sls r with
      | none => rw [hc] at hφ; exact hφ.elim
      | some os => rw [hc] at hφ; exact hφ cls d H' ⟨G', r, s', C, da, xs, m, hc, z⟩
  have fin : ∀ {σ' : L2.St} {H' : Hp} {v : V} {u : Value}, Inv (bodyX P w K mg base N qual scope f cdv A outer s H E) [] σ' H' s' → RelV v u → Q v H' → CE outer P w H s Q u s' :=
    fun {σ' H' v u} J rv q => ⟨v, H', J.os, J.bare, J.base, J.hok, rv, q⟩
  cases fl with
  | ret u => obtain ⟨v, σ', H', J, rv, q⟩ := hs; exact fin J rv q
  | next => obtain ⟨σ', H', J, q⟩ := hs; exact fin (v := V.non) (u := Value.none) J rfl q
  | brk => obtain ⟨_, _, _, q⟩ := hs; exact q.elim
  | cont => obtain ⟨_, _, _, q⟩ := hs; exact q.elim
/-! ### calls -/
section
variable {X : Cx} {W : WX} {k : Nat} {f : Addr} {fd : FuncData} {ps : List Str} {sp : Sp}
theorem run_fnG {pins : List (Addr × Obj)} {σ : L2.St} {H : Hp} {s : Shared} {Q : VK} {us us' : List Value} {vs : List V} {kw : List (Str × Value)} (F : FnG X.prog X.w X.K X.mg X.base k f fd ps sp) (hr : Room k X.A) (hg : X.A.guards = some []) (tk : Takes X W)
    (hb : BindsTo s fd ⟨us', kw⟩ (ps.zip us)) (I : Inv X pins σ H s) (r : Vals vs us) (h : sp vs H Q (WE W σ)) : wpAny (model X.prog X.w) X.A (call (.ref f) us' kw) (EP X pins σ Q) X.xe s := by
  refine wpAny_call (codeAny_mono (F.run X.A X.stack s H ⟨us', kw⟩ us vs Q (WE W σ) hr hg I.env0 hb r h) fun r s' hq => ?_)
  cases r with
  | error e => exact passAt tk σ pins H s e s' I hq
  | ok fl =>
    cases fl with
    | ret u => exact I.after hq
    | next => exact hq.elim
    | brk => exact hq.elim
    | cont => exact hq.elim
def dCall (φ : Fn) (md : List Bool) (fa : DA) : DX := fun r => (fa r).bind fun p => callK φ md p.1 p.2
/-- f(e, ..), every parameter written -/
theorem de_call {φ : Fn} {md : List Bool} {x : Str} {p pos : Pos} {e : Expr} {es : List Expr} {fa : DA} (F : FnG X.prog X.w X.K X.mg X.base k f fd ps (spD X.K X.mg ps.length φ)) (hr : Room k X.A) (hgd : X.A.guards = some []) (tk : Takes X W) (hg : Gl X x) (hm : X.mg x = some (.ref f)) (hk : PySem.W.keepIn X.K (.ref f) = true)
    (hb : Binds X.K fd ps []) (hn : (e :: es).length = ps.length) (ha : DAs X W (e :: es) fa) (hdb : (x == ("__debug__" : Str)) = false) (he : starEach (e :: es) X.env = (false, eval e X.env) :: starEach es X.env) (hpl : (backTo pos (starEach es X.env)).any (·.1) = false)
    (hal : ∀ r p, fa r = .ok p → p.1.length = (e :: es).length) : DE X W (.Call (.Name x p) (e :: es) [] pos) (dCall φ md fa) := fun fr T => by
  refine ⟨fun pins s σ H Q I ⟨G, r, rel, o⟩ => ?_⟩
  refine wpAny_Call_Name_kw (ld_glob I hg hm ?_ hdb)
  have t : tDA X W fr T fa σ H fun vs H1 => spD X.K X.mg ps.length φ vs H1 Q (WE W σ) := by
    refine ⟨G, r, rel, ?_⟩
    unfold dCall at o
    cases hf : fa r with
    | stuck => rw [hf] at o; exact o
    | exc c fs r' => rw [hf] at o; exact o
    | ok q =>
      rw [hf] at o
      intro vs H1 ⟨G1, m, rel1, pr⟩
      exact call_ok (by rw [Paired.length pr, hal r q hf, hn]) rel1 pr (out.mono m o)
  refine PySem.W.callWith_K (h₀ := X.base) I.ok.mod.kin hk (thn ((ha fr T).run pos pins s σ H _ I t) fun us s1 ⟨vs, H1, I1, rv, q⟩ => ⟨I1.kIn, ?_⟩) he hpl
  have hl : us.length = ps.length := by rw [← rv.length]; exact q.1
  have b := hb s1 us I1.kIn (by rw [List.append_nil]; exact hl)
  rw [List.append_nil] at b
  exact run_fnG F hr hgd tk b I1 rv q
end
end Dn
namespace Dn
open PySem PySem.Spec PyProof.Rows L2
/-! ### calls by keywords -/
def perm {A : Type} (π : List Nat) (l : List A) : List A := π.filterMap fun i => l[i]?
theorem paired_opt {A B : Type} {P : A → B → Prop} : ∀ {xs : List A} {ys : List B} (i : Nat), Paired P xs ys → (xs[i]? = none ∧ ys[i]? = none) ∨ ∃ x y, xs[i]? = some x ∧ ys[i]? = some y ∧ P x y
  | _, _, _, .nil => .inl ⟨rfl, rfl⟩
  | _, _, 0, .cons h _ => .inr ⟨_, _, rfl, rfl, h⟩
  | _, _, i + 1, .cons _ t => by simpa using paired_opt i t
theorem paired_perm {A B : Type} {P : A → B → Prop} {xs : List A} {ys : List B} (h : Paired P xs ys) : ∀ π : List Nat, Paired P (perm π xs) (perm π ys)
  | [] => .nil
  | i :: π => by
    unfold perm
    rcases paired_opt i h with ⟨e1, e2⟩ | ⟨x, y, e1, e2, q⟩
    · rw [List.filterMap_cons_none e1, List.filterMap_cons_none e2]
      exact paired_perm h π
    · rw [List.filterMap_cons_some e1, List.filterMap_cons_some e2]
      exact .cons q (paired_perm h π)
def DKs (X : Cx) (W : WX) (kws : List Keyword) (f : DA) : Prop := ∀ fr T, PK X kws (tDA X W fr T f)
theorem pk_imp {X : Cx} {es : List Keyword} {t t' : TA} (h : PK X es t) (q : ∀ s H Q, t' s H Q → t s H Q) : PK X es t' := ⟨fun pos pins s σ H Q I w => h.run pos pins s σ H Q I (q σ H Q w)⟩
section
variable {X : Cx} {W : WX}
theorem dk_nil : DKs X W [] dNil := fun fr T => pk_imp pk_nil fun s H Q ⟨G, r, rel, o⟩ => o [] H ⟨G, .refl _, rel, .nil⟩
theorem dk_cons {e : Expr} {kws : List Keyword} {nm : Option Str} {kpos : Pos} {f : DX} {g : DA} (hf : DE X W e f) (hg : DKs X W kws g) : DKs X W (⟨nm, e, kpos⟩ :: kws) (dCons f g) := fun fr T =>
  pk_imp (pk_cons (hf fr T) (hg fr T)) fun s H Q ⟨G, r, rel, o⟩ => by
    refine opd_bindO (g := fun a r1 => (g r1).bind fun q => .ok (a :: q.1, q.2)) (ocA Q) rel o fun G1 r1 v H1 dv m rel1 ov o1 => ?_
    refine da_bindO (g := fun as r2 => .ok (dv :: as, r2)) (ocA _) rel1 o1 fun G2 r2 vs H2 dvs m2 rel2 pr o2 => ?_
    exact o2 _ H2 ⟨G2, .refl _, rel2, .cons (ov.mono m2) pr⟩
/-- how many values an argument list has -/
def Ln (n : Nat) (f : DA) : Prop := ∀ r p, f r = .ok p → p.1.length = n
theorem ln_nil : Ln 0 dNil := fun r p e => by cases e; rfl
theorem ln_cons {n : Nat} {f : DX} {g : DA} (h : Ln n g) : Ln (n + 1) (dCons f g) := fun r p e => by
  unfold dCons at e
  cases h1 : opd f r with
  | stuck => rw [h1] at e; cases e
  | exc c fs r' => rw [h1] at e; cases e
  | ok q =>
    rw [h1] at e
    have e : ((g q.2).bind fun z => R.ok (q.1 :: z.1, z.2)) = .ok p := e
    cases h2 : g q.2 with
    | stuck => rw [h2] at e; cases e
    | exc c fs r' => rw [h2] at e; cases e
    | ok z =>
      rw [h2] at e
      cases e
      show (q.1 :: z.1).length = n + 1
      rw [List.length_cons, h q.2 z h2]
end
/-! ### a def of the module that keeps a promise -/
structure Has (P : Program) (w : World) (K : PySem.W.Frag) (mg : Str → Option Value) (base : Heap) (x : Str) (st : Stmt) (k : Nat) (ps : List Str) (φ : Fn) : Prop where
  ex : ∃ (f : Addr) (fd : FuncData), mg x = some (.ref f) ∧ FunD K x x (defArgs st) (defBody st) (defScope st) [] [] f fd ∧ Binds K fd ps [] ∧ FnG P w K mg base k f fd ps (spD K mg ps.length φ)
/-- what a body may lean on -/
structure Gd (X : Cx) (k : Nat) : Prop where
  calm : X.calm = true
  room : Room k X.A
  gd : X.A.guards = some []
section
variable {X : Cx} {W : WX} {k j : Nat} {st : Stmt} {ps : List Str} {φ : Fn} {md : List Bool} {x : Str} {p pos : Pos} {e : Expr} {es : List Expr} {kws : List Keyword} {fa : DA}
theorem Gd.u5 (g : Gd X k) : X.A.units + 65 < cLine := by have := g.room.un; omega
theorem Gd.u (g : Gd X k) : X.A.units + 66 < cLine := by have := g.room.un; omega
theorem eCall (g : Gd X k) (tk : Takes X W) (h : Has X.prog X.w X.K X.mg X.base x st j ps φ) (hj : j ≤ k) (ha : DAs X W (e :: es) fa) (hl : Ln (e :: es).length fa) (hn : (e :: es).length = ps.length := by rfl) (hg : Gl X x := by rfl) (hdb : (x == ("__debug__" : Str)) = false := by decide)
    (he : starEach (e :: es) X.env = (false, eval e X.env) :: starEach es X.env := by rfl) (hpl : (backTo pos (starEach es X.env)).any (·.1) = false := by rfl) : DE X W (.Call (.Name x p) (e :: es) [] pos) (dCall φ md fa) := by
  obtain ⟨f, fd, hm, F, hb, G⟩ := h.ex
  exact de_call (G.up hj) g.room g.gd tk hg hm F.kp hb hn ha hdb he hpl hl
def dCallP (φ : Fn) (md : List Bool) (π : List Nat) (fa : DA) : DX := fun r => (fa r).bind fun p => callK φ md (perm π p.1) p.2
/-- f(k = e, ..) -/
theorem eCallKw {π : List Nat} {ks : List Str} (g : Gd X k) (tk : Takes X W) (h : Has X.prog X.w X.K X.mg X.base x st j ps φ) (hj : j ≤ k) (ha : DKs X W kws fa) (hl : Ln ks.length fa)
    (hb : ∀ (kV doc pm : Value) (an : Option Addr) (cdv ct : Value) (ws : List Value), ws.length = ks.length → bindArgs (PySem.W.fnOf x x (defArgs st) (defBody st) (defScope st) .none kV doc pm an cdv ct) ⟨[], ks.zip ws⟩ = pure (ps.zip (perm π ws)))
    (hp : ∀ {A : Type} (l : List A), l.length = ks.length → (perm π l).length = ps.length) (hks : (backToKw pos (keywordEach kws X.env)).filterMap (·.1) = ks := by rfl)
    (hall : (backToKw pos (keywordEach kws X.env)).all (·.1.isSome) = true := by rfl) (hg : Gl X x := by rfl) (hdb : (x == ("__debug__" : Str)) = false := by decide)
    (hpl : ((backTo pos (starEach [] X.env)).any (·.1) || (backToKw pos (keywordEach kws X.env)).any (·.1.isNone)) = false := by rfl) : DE X W (.Call (.Name x p) [] kws pos) (dCallP φ md π fa) := fun fr T => by
  obtain ⟨f, fd, hm, F, _, G⟩ := h.ex
  refine ⟨fun pins s σ H Q I ⟨G0, r, rel, o⟩ => ?_⟩
  refine wpAny_Call_Name_kw (ld_glob I hg hm ?_ hdb)
  have t : tDA X W fr T fa σ H fun vs H1 => vs.length = ks.length ∧ spD X.K X.mg ps.length φ (perm π vs) H1 Q (WE W σ) := by
    refine ⟨G0, r, rel, ?_⟩
    unfold dCallP at o
    cases hf : fa r with
    | stuck => rw [hf] at o; exact o
    | exc c fs r' => rw [hf] at o; exact o
    | ok q =>
      rw [hf] at o
      intro vs H1 ⟨G1, m, rel1, pr⟩
      have hv : vs.length = ks.length := by rw [Paired.length pr, hl r q hf]
      exact ⟨hv, call_ok (hp vs hv) rel1 (paired_perm pr π) (out.mono m o)⟩
  refine PySem.W.callWith_KW0 (h₀ := X.base) I.ok.mod.kin F.kp hall (thn ((ha fr T).run pos pins s σ H _ I t) fun ws s1 ⟨vs, H1, I1, rv, hv, q⟩ => ⟨I1.kIn, ?_⟩) hpl
  rw [hks]
  have hw : ws.length = ks.length := by rw [← rv.length]; exact hv
  obtain ⟨oc, od, dV, kV, doc, pm, an, cdv, ct, osl, rfl, lk, hcd, hD, _⟩ := F.ex
  rcases hD with ⟨_, rfl⟩ | ⟨e, _⟩
  · exact run_fnG (G.up hj) g.room g.gd tk (.of_eq (hb kV doc pm an cdv ct ws hw)) I1 (paired_perm rv π) q
  · exact absurd rfl e
end
/-! ### the law -/
theorem law_go {P : Program} {w : World} {K : PySem.W.Frag} {mg mb : Str → Option Value} {k : Nat} {fa a : Addr} {fd : FuncData} {x : Str} {φ : Fn} {s1 : Shared} {vs : List Value} {ns : List Int}
    (inK : K.In s1.heap) (hg : s1.heap.Ns mainGlobals mg) (hb : s1.heap.Ns builtinsNs mb) (hbb : ∀ x : Str, x ≠ "__name__" → mb x = bootBuiltins x) (nol : s1.heap.NoLimit) (gens : s1.gens = #[])
    (obj : s1.heap.get? a = some { cls := .type "list", data := .seq vs.toArray }) (hi : IntsAre vs ns) (hl : ns.length ≤ sizeLine) (room : Room k callerA)
    (F : ∀ base : Heap, K.In base → base.Ns mainGlobals mg → FnG P w K mg base k fa fd [x] (spD K mg 1 φ)) (bind : ∀ (s : Shared) (u : Value), BindsTo s fd ⟨[u], []⟩ [(x, u)]) (hφ : φ [.scr ns] = .ok (.dat (.bool true)) []) :
    codeAny (model P w) callerA (.call (.ref fa) ⟨[.ref a], []⟩) (fun r s' => r = .ok (.ret (.bool true)) ∧ OldK s1.heap s'.heap ∧ s'.os = s1.os ∧ AllBare s'.gens) s1 := by
  have iv := vals_ints hi
  have lens := hi.length
  -- over any reading of the heap that tracks the script alone
  suffices core : ∃ H : Hp, (∀ b, H b = none ∨ ∃ o xs, H b = some (.frz o (.lst xs))) ∧ SqL K H a (ns.map V.int) ∧ HOk P w H s1.heap ∧ (∀ b, H b ≠ none → b = a ∧ K.lookup a = none) by
    obtain ⟨H, only, sq, hok, at_⟩ := core
    have kept : ∀ {b : Addr} {o : Obj}, s1.heap.get? b = some o → (∀ es n, o.data ≠ .seq es n) → (hidT s1.heap H).get? b = some o := fun {b o} e nd => by
      refine hidT_get e ?_
      cases q : H b with
      | none => rfl
      | some u =>
        obtain ⟨rfl, _⟩ := at_ b (ne_none_of q)
        rw [obj] at e
        cases e
        exact absurd rfl (nd _ _)
    have names : ∀ {b : Addr} {m : Str → Option Value}, s1.heap.Ns b m → (hidT s1.heap H).Ns b m := fun {b m} ⟨o, es, ep, e, d, r⟩ => ⟨o, es, ep, kept e fun _ _ z => (by rw [d] at z; cases z), d, r⟩
    have kb : K.In (hidT s1.heap H) := fun b o e => by
      refine hidT_get (inK b o e) ?_
      cases q : H b with
      | none => rfl
      | some u =>
        obtain ⟨rfl, z⟩ := at_ b (ne_none_of q)
        rw [z] at e; cases e
    have e0 : Env0 P w K mg (hidT s1.heap H) callerA [] s1 H :=
      ⟨rfl, ⟨kb, names hg, ⟨mb, names hb, hbb⟩, let ⟨mc, h1, h2⟩ := nol; ⟨mc, names h1, h2⟩⟩, fun b o e => of_hidT e, Nat.le_of_eq (hidT_size _ _), trivial, fun b z => absurd z List.not_mem_nil, hok, .of_eq gens⟩
    have sp : spD K mg 1 φ [.ref a] H (fun v _ => v = .bl true) (fun _ _ _ => False) := by
      refine ⟨rfl, H, [.scr ns], ⟨.refl _, .cons ⟨⟨a, rfl, sq⟩, fun b o z => by cases z⟩ .nil, List.nodup_nil⟩, ?_⟩
      rw [hφ]
      intro v H' ⟨G', r', s', _, _, _, q⟩
      cases q
      rfl
    refine codeAny_mono ((F _ kb (names hg)).run callerA [] s1 H ⟨[.ref a], []⟩ [.ref a] [.ref a] _ _ room rfl e0 (bind s1 (.ref a)) (.cons rfl .nil) sp) fun r s' h => ?_
    cases r with
    | error e => obtain ⟨_, _, _, _, _, _, _, _, _, _, _, _, z⟩ := h; exact z.elim
    | ok fl =>
      cases fl with
      | next => exact h.elim
      | brk => exact h.elim
      | cont => exact h.elim
      | ret u =>
        obtain ⟨v, H', os, bare, un, hok', rv, q⟩ := h
        have q : v = .bl true := q
        subst q
        obtain rfl : u = Value.bool true := rv
        refine ⟨rfl, OldK.of_keep fun b o e => ?_, os, bare⟩
        rcases only b with z | ⟨ob, xs, z⟩
        · exact un.keep b o e z (fun q => absurd q List.not_mem_nil) List.not_mem_nil
        · obtain ⟨e1, _⟩ := hok b _ z
          obtain ⟨e2, _⟩ := hok' b _ (un.frzs b ob _ z)
          rw [e] at e1; cases e1
          exact e2
  cases hk : K.lookup a with
  | some o =>
    have e := inK a o hk
    rw [obj] at e
    cases e
    exact ⟨fun _ => none, fun _ => .inl rfl, .inr ⟨_, vs.toArray, _, hk, rfl, rfl, rfl, by rw [List.size_toArray, lens]; exact hl, by simpa using iv⟩, fun b u z => (nomatch (show (none : Option HO) = some u from z)), fun b z => absurd rfl z⟩
  | none =>
    refine ⟨fun b => if b = a then some (.frz { cls := .type "list", data := .seq vs.toArray } (.lst (ns.map V.int))) else none, fun b => ?_, .inl (.inr ⟨{ cls := .type "list", data := .seq vs.toArray }, if_pos rfl⟩), fun b u z => ?_, fun b z => ?_⟩
    · by_cases hb : b = a
      · exact .inr ⟨_, _, if_pos hb⟩
      · exact .inl (if_neg hb)
    · by_cases hb : b = a
      · have q := (if_pos hb).symm.trans z
        cases q
        subst hb
        exact ⟨obj, by rw [List.length_map]; exact hl, vs, _, iv, obj⟩
      · have q := (if_neg hb).symm.trans z
        cases q
    · by_cases hb : b = a
      · exact ⟨hb, rfl⟩
      · exact absurd (if_neg hb) z
theorem walk_go {l : PySem.W.OpenLaw} {n k : Nat} {q : Program} {loose : List Str} {XP : (Str → Option Value) → Heap → Prop} {YP : World → Heap → Prop} {d : DefRec} {x : Str} {φ : Fn}
    (hn : l.most = some n) (hn2 : n ≤ sizeLine) (hdf : d.params.defaults = []) (room : Room k callerA) (hφ : ∀ ns : List Int, ns.length ≤ n → φ [.scr ns] = .ok (.dat (.bool true)) [])
    (F : ∀ (w : World) (mg : Str → Option Value) (h : Heap), YP w h → h.Ns mainGlobals mg → ∃ (K : PySem.W.Frag), K.In h ∧ ∃ (f : Addr) (fd : FuncData), mg d.name = some (.ref f) ∧ (∀ (s : Shared) (u : Value), BindsTo s fd ⟨[u], []⟩ [(x, u)]) ∧
        ∀ base : Heap, K.In base → base.Ns mainGlobals mg → FnG l.prog w K mg base k f fd [x] (spD K mg 1 φ)) :
    PySem.W.WalkO q loose XP YP l.row.toRowW d [] (fun f vs => PySem.call f vs) := by
  refine Att.attach_call hn hdf fun w s0 s1 mg mb fa o pm cd doc a vs ns G Y ho hd hcd hmg hobj hints hlen hg => ?_
  obtain ⟨K, KX, f, fd, hm, hb, hF⟩ := F w mg _ Y G.T.g
  rw [hm] at hmg
  cases hmg
  exact law_go KX G.T.g G.T.b G.T.builtins G.T.nolimit hg hobj hints (Nat.le_trans hlen hn2) room hF hb (hφ ns hlen)
end Dn
namespace Dn
open PySem PySem.Spec PyProof.Rows L2
/-! ### the built-in names that the module leaves alone -/
structure Free (mg : Str → Option Value) : Prop where
  len : mg "len" = none
  repr : mg "repr" = none
  sorted : mg "sorted" = none
  tuple : mg "tuple" = none
  list : mg "list" = none
  int : mg "int" = none
  any : mg "any" = none
  all : mg "all" = none
  min : mg "min" = none
  max : mg "max" = none
  sum : mg "sum" = none
  abs : mg "abs" = none
  range : mg "range" = none
  enumerate : mg "enumerate" = none
  zip : mg "zip" = none
  set : mg "set" = none
  isinstance : mg "isinstance" = none
  dict : mg "dict" = none
  str : mg "str" = none
  bool : mg "bool" = none
def freeFa : List He.Fa := [.free "len", .free "repr", .free "sorted", .free "tuple", .free "list", .free "int", .free "any", .free "all", .free "min", .free "max", .free "sum", .free "abs", .free "range", .free "enumerate", .free "zip", .free "set", .free "isinstance", .free "dict", .free "str", .free "bool"]
section
variable {X : Cx} {W : WX} {k : Nat} {x : Str} {p pos npos apos : Pos} {e a b c : Expr} {es : List Expr} {fa : DA} {f g : DX} {i : Nat}
/-! ### expressions -/
theorem eV (i : Nat) (hN : X.N[i]? = some x := by rfl) (hv : Vis X.env.scope x := by first | exact .inl rfl | exact .inr (.inl rfl) | exact .inr (.inr rfl)) (hd : (x == ("__debug__" : Str)) = false := by decide) (hcd : (x == ("__classdict__" : Str)) = false := by decide) : DE X W (.Name x pos) (dVar i) := de_var hN hv hd hcd
theorem eCmp {op : CmpOp} {q : Op2} (ho : OpR X (compareOp op) (rD q)) (ha : DE X W a f) (hb : DE X W b g) (hm : behindInMarks op b = false := by rfl) : DE X W (.Compare a [op] [b] pos) (dBin q f g) := de_cmp ho ha hb hm
theorem tCmp {op : CmpOp} {q : Op2} (ho : OpR X (compareOp op) (rD q)) (ha : DE X W a f) (hb : DE X W b g) (hm : behindInMarks op b = false := by rfl) : DTe X W (.Compare a [op] [b] pos) (dB (dBin q f g)) := dt_cmp ho ha hb hm
theorem tVal (h : DE X W e f) (he : ∀ whole, isTrue e X.env whole = (do let v ← whole; standAt e.pos; holding [v] (truthy v)) := by intro _; rfl) : DTe X W e (dB f) := dt_val h he
theorem tW {t : DT} (h : DW X W e t) : DTe X W e t := h.t
theorem aC {fs : DA} (hf : DE X W e f) (hg : DAs X W es fs) (hs : starEach (e :: es) X.env = (false, eval e X.env) :: starEach es X.env := by rfl) : DAs X W (e :: es) (dCons f fs) := da_cons hf hg hs
theorem fC {fs : DF} (hf : DE X W e f) (hg : DFs X W es fs) (hs : starEach (e :: es) X.env = (false, eval e X.env) :: starEach es X.env := by rfl) : DFs X W (e :: es) (dfCons f fs) := df_cons hf hg hs
theorem pC {k : Bool} {fs : DP} (hf : DE X W e f) (hg : DPs X W es fs) (hs : starEach (e :: es) X.env = (false, eval e X.env) :: starEach es X.env := by rfl) : DPs X W (e :: es) (dpCons k f fs) := dp_cons hf hg hs
theorem eIx (ha : DE X W a f) (hb : DE X W b g) (hs : PlainIx b := by intro _ _; rfl) : DE X W (.Subscript a b pos) (dBin ixD f g) := de_ix ha hb hs
theorem bB {op : OpN} {id : String} (hc : CallR X (.builtin id) (rDs op)) (hm : X.mg x = none) (hv : bootBuiltins x = some (.builtin id)) (ha : DAs X W (e :: es) fa) (hg : Gl X x := by rfl) (hn : x ≠ "__name__" := by decide) (hdb : (x == ("__debug__" : Str)) = false := by decide)
    (he : starEach (e :: es) X.env = (false, eval e X.env) :: starEach es X.env := by rfl) (hpl : (backTo pos (starEach es X.env)).any (·.1) = false := by rfl) : DE X W (.Call (.Name x p) (e :: es) [] pos) (dCB op fa) := de_callB hc hg hm hv ha hn hdb he hpl
theorem bT {op : OpN} {id : String} (hc : CallR X (.type id) (rDs op)) (hm : X.mg x = none) (hv : bootBuiltins x = some (.type id)) (ha : DAs X W (e :: es) fa) (hg : Gl X x := by rfl) (hn : x ≠ "__name__" := by decide) (hdb : (x == ("__debug__" : Str)) = false := by decide)
    (he : starEach (e :: es) X.env = (false, eval e X.env) :: starEach es X.env := by rfl) (hpl : (backTo pos (starEach es X.env)).any (·.1) = false := by rfl) : DE X W (.Call (.Name x p) (e :: es) [] pos) (dCB op fa) := de_callTy hc hg hm hv ha hn hdb he hpl
/-! list(range(..)) -/
def rgK (a b : Int) (r : DEnv) : R (DV × DEnv) := if big62 a = true ∧ big62 b = true ∧ (b - a).toNat ≤ 2 ^ 24 then .ok (.own (.lst (rangeL a (b - a).toNat)), r) else .stuck
def dLr1 (f : DX) : DX := fun r => (opd f r).bind fun p => match p.1 with
  | .dat (.int j) => rgK 0 j p.2
  | _ => .stuck
def dLr2 (f g : DX) : DX := fun r => (opd f r).bind fun p => (opd g p.2).bind fun q => match p.1, q.1 with
  | .dat (.int i), .dat (.int j) => rgK i j q.2
  | _, _ => .stuck
theorem rgV_dq {G : Hp} (a b : Int) : DqAll G (rgV a b) (rangeL a (b - a).toNat) := by
  unfold rgV rangeL
  have h : ∀ l : List Nat, DqAll G (l.map fun i => V.int (a + (i : Nat))) (l.map fun i => PyData.int (a + (i : Nat))) := fun l => by
    induction l with
    | nil => exact .nil
    | cons x l ih => exact .cons (.int _) ih
  exact h _
theorem rgK_ok {fr : Fm} {T : List (Addr × Ob)} {G : Hp} {r : DEnv} {s : L2.St} {H : Hp} {a b : Int} {Q : VK} (rel : Rel X.K X.mg fr T G r s H) (o : out X W fr T G s (rgK a b r) Q) : RgOk a b ∧ ∀ q, H q = none → Q (.ref q) (upd H q (.lst (rgV a b))) := by
  unfold rgK at o
  split at o
  · rename_i hc
    exact ⟨⟨(big62_ok hc.1).1, (big62_ok hc.1).2, (big62_ok hc.2.1).1, (big62_ok hc.2.1).2, hc.2.2⟩, fun q hq => o _ _ ((rp_lst hq (rgV_dq a b)).post rel)⟩
  · exact o.elim
theorem eLr1 {p2 pos2 : Pos} (hc : X.calm = true) (hm : X.mg "list" = none) (hm2 : X.mg "range" = none) (ha : DE X W a f) (hg : Gl X "list" := by rfl) (hg2 : Gl X "range" := by rfl) (na : starEach [a] X.env = (false, eval a X.env) :: starEach [] X.env := by rfl)
    (nb : starEach [.Call (.Name "range" p2) [a] [] pos2] X.env = (false, eval (.Call (.Name "range" p2) [a] [] pos2) X.env) :: starEach [] X.env := by rfl) : DE X W (.Call (.Name "list" p) [.Call (.Name "range" p2) [a] [] pos2] [] pos) (dLr1 f) := fun fr T =>
  pe_imp (pe_listRg hc hg hm (prg_1 hg2 hm2 (ha fr T) na) nb) fun s H Q ⟨G, r, rel, o⟩ => by
    refine opd_bindO (g := fun v r1 => match v with
      | .dat (.int j) => rgK 0 j r1
      | _ => .stuck) (ocX Q) rel o fun G1 r1 v H1 dv m rel1 ov o1 => ?_
    cases dv <;> try (exact o1.elim)
    rename_i d
    cases d <;> try (exact o1.elim)
    rename_i j
    have ov : Dq G1 v (.int j) := ov
    cases ov
    exact ⟨j, rfl, rgK_ok rel1 o1⟩
theorem eLr2 {p2 pos2 : Pos} (hc : X.calm = true) (hm : X.mg "list" = none) (hm2 : X.mg "range" = none) (ha : DE X W a f) (hb : DE X W b g) (hg : Gl X "list" := by rfl) (hg2 : Gl X "range" := by rfl) (na : starEach [a, b] X.env = (false, eval a X.env) :: starEach [b] X.env := by rfl)
    (nb : starEach [b] X.env = (false, eval b X.env) :: starEach [] X.env := by rfl) (np : (backTo pos2 (starEach [b] X.env)).any (·.1) = false := by rfl)
    (nr : starEach [.Call (.Name "range" p2) [a, b] [] pos2] X.env = (false, eval (.Call (.Name "range" p2) [a, b] [] pos2) X.env) :: starEach [] X.env := by rfl) : DE X W (.Call (.Name "list" p) [.Call (.Name "range" p2) [a, b] [] pos2] [] pos) (dLr2 f g) := fun fr T =>
  pe_imp (pe_listRg hc hg hm (prg_2 hg2 hm2 (ha fr T) (hb fr T) na nb np) nr) fun s H Q ⟨G, r, rel, o⟩ => by
    refine opd_bindO (g := fun v r1 => (opd g r1).bind fun q => match v, q.1 with
      | .dat (.int i), .dat (.int j) => rgK i j q.2
      | _, _ => .stuck) (ocX Q) rel o fun G1 r1 v H1 dv m rel1 ov o1 => ?_
    refine opd_bindO (g := fun u r2 => match dv, u with
      | .dat (.int i), .dat (.int j) => rgK i j r2
      | _, _ => .stuck) (ocX _) rel1 o1 fun G2 r2 u H2 du m2 rel2 ou o2 => ?_
    cases dv <;> try (exact o2.elim)
    rename_i d
    cases d <;> try (exact o2.elim)
    rename_i i
    cases du <;> try (exact o2.elim)
    rename_i d
    cases d <;> try (exact o2.elim)
    rename_i j
    have ov : Dq G1 v (.int i) := ov
    have ou : Dq G2 u (.int j) := ou
    cases ov
    cases ou
    exact ⟨i, j, rfl, rfl, rgK_ok rel2 o2⟩
/-! ### what is walked: a list, a tuple, a text -/
def onA : PyData → Option (List PyData)
  | .list ds => some ds
  | .tuple ds => some ds
  | .str z => some (signs z)
  | _ => none
def itA (f : DX) : DI := fun r => (frzE f r).bind fun p => match onA p.1 with
  | some ds => .ok (ds, p.2)
  | none => .stuck
theorem di_any {tg : Expr} (h : DE X W e f) : DIt X W tg e (itA f) := fun fr T => by
  refine ⟨fun pins s σ H Q I ⟨G, r, rel, o⟩ => ?_⟩
  have via : ∀ {it : DI}, DIt X W tg e it → it r = itA f r → _ := fun {it} hi he => (hi fr T).run pins s σ H Q I ⟨G, r, rel, by rw [he]; exact o⟩
  cases hf : frzE f r with
  | stuck => exact via (di_list h) (by unfold itL itA; rw [hf]; rfl)
  | exc c fs r' => exact via (di_list h) (by unfold itL itA; rw [hf]; rfl)
  | ok p =>
    obtain ⟨d, r1⟩ := p
    cases d with
    | tuple ds => exact via (di_tup h) (by unfold itT itA; rw [hf]; rfl)
    | str z => exact via (di_str h) (by unfold itS itA; rw [hf]; rfl)
    | list ds => exact via (di_list h) (by unfold itL itA; rw [hf]; rfl)
    | none => exact via (di_list h) (by unfold itL itA; rw [hf]; rfl)
    | bool ds => exact via (di_list h) (by unfold itL itA; rw [hf]; rfl)
    | int ds => exact via (di_list h) (by unfold itL itA; rw [hf]; rfl)
    | dict ds => exact via (di_list h) (by unfold itL itA; rw [hf]; rfl)
def onS : PyData → Option (List PyData)
  | .list ds => some ds
  | .tuple ds => some ds
  | _ => none
theorem iEn {tpos : Pos} {elts : List Expr} {kk : Nat} {ff : DF} (hm : X.mg "enumerate" = none) (ha : DFs X W [e] ff) (hg : Gl X "enumerate" := by rfl) (hs : starEach [e] X.env = [(false, eval e X.env)] := by rfl) :
    DIt X W (.Tuple elts kk tpos) (.Call (.Name "enumerate" p) [e] [] pos) (itEn onS ff) := fun fr T => by
  refine ⟨fun pins s σ H Q I ⟨G, r, rel, o⟩ => ?_⟩
  have via : ∀ {it : DI}, DIt X W (.Tuple elts kk tpos) (.Call (.Name "enumerate" p) [e] [] pos) it → it r = itEn onS ff r → _ := fun {it} hi he => (hi fr T).run pins s σ H Q I ⟨G, r, rel, by rw [he]; exact o⟩
  have vl := di_enumL (elts := elts) (kk := kk) (tpos := tpos) (p := p) (pos := pos) hg hm ha hs
  have vt := di_enumT (elts := elts) (kk := kk) (tpos := tpos) (p := p) (pos := pos) hg hm ha hs
  cases hf : ff r with
  | stuck => exact via vl (by unfold itEn; rw [hf]; rfl)
  | exc c fs r' => exact via vl (by unfold itEn; rw [hf]; rfl)
  | ok p =>
    obtain ⟨ds, r1⟩ := p
    cases ds with
    | nil => exact via vl (by unfold itEn; rw [hf]; rfl)
    | cons d ds =>
      cases ds with
      | cons _ _ => exact via vl (by unfold itEn; rw [hf]; rfl)
      | nil =>
        cases d with
        | tuple ds => exact via vt (by unfold itEn; rw [hf]; rfl)
        | str z => exact via vl (by unfold itEn; rw [hf]; rfl)
        | list ds => exact via vl (by unfold itEn; rw [hf]; rfl)
        | none => exact via vl (by unfold itEn; rw [hf]; rfl)
        | bool ds => exact via vl (by unfold itEn; rw [hf]; rfl)
        | int ds => exact via vl (by unfold itEn; rw [hf]; rfl)
        | dict ds => exact via vl (by unfold itEn; rw [hf]; rfl)
theorem iZ {e2 : Expr} {tpos : Pos} {elts : List Expr} {kk : Nat} {ff : DF} (hm : X.mg "zip" = none) (ha : DFs X W [e, e2] ff) (hg : Gl X "zip" := by rfl) (hs : starEach [e, e2] X.env = (false, eval e X.env) :: starEach [e2] X.env := by rfl) (hpl : (backTo pos (starEach [e2] X.env)).any (·.1) = false := by rfl) :
    DIt X W (.Tuple elts kk tpos) (.Call (.Name "zip" p) [e, e2] [] pos) (itZ ff) := di_zip hg hm ha hs hpl
theorem iR1 {tg : Expr} {ff : DF} (hm : X.mg "range" = none) (ha : DFs X W [a] ff) (hg : Gl X "range" := by rfl) (hs : starEach [a] X.env = [(false, eval a X.env)] := by rfl) : DIt X W tg (.Call (.Name "range" p) [a] [] pos) (itR rng1 ff) := di_range1 hg hm ha hs
theorem iR2 {tg : Expr} {ff : DF} (hm : X.mg "range" = none) (ha : DFs X W [a, b] ff) (hg : Gl X "range" := by rfl) (hs : starEach [a, b] X.env = [(false, eval a X.env), (false, eval b X.env)] := by rfl) (hs2 : starEach [b] X.env = [(false, eval b X.env)] := by rfl) : DIt X W tg (.Call (.Name "range" p) [a, b] [] pos) (itR rng2 ff) := di_range2 hg hm ha hs hs2
/-! ### targets -/
theorem gN (i : Nat) (hN : X.N.Nodup) (hi : X.N[i]? = some x := by rfl) (hx : Loc X.env.scope x := by first | exact .inl rfl | exact .inr rfl) (hf : X.fn x = true ∨ X.env.scope.names.lookup x = some .local := by first | exact .inl rfl | exact .inr rfl) : DGt X (.Name x pos) (pName i) := dg_name hN hi hx hf
theorem gC {q : Pat} {ps : Pats} (h1 : DGt X e q) (h2 : DGts X es ps) (hs : (assignEach (e :: es) X.env).map (·.2) = assign e X.env :: (assignEach es X.env).map (·.2) := by rfl) : DGts X (e :: es) (psCons q ps) := dgs_cons h1 h2 hs
theorem gT {kk : Nat} {ps : Pats} (hc : X.calm = true) (h : DGts X es ps) (hn : (assignEach es X.env).length = ps.n := by rfl) (hst : (assignEach es X.env).findIdx? (·.1) = none := by rfl) : DGt X (.Tuple es kk pos) (pTup ps) := dg_tup hc h hn hst
/-! ### comprehensions -/
theorem Gd.blk (h : Gd X k) {s : Shared} {H : Hp} {scope : Scope} {env : Env} {fp : List Addr} : Gd (X.blk s H scope env fp) k := ⟨h.calm, h.room, h.gd⟩
/-- the tests of a comprehension -/
def DTs (X : Cx) (es : List Expr) (t : DT) : Prop := PTs X es (tDTe X t)
theorem ts0 : DTs X [] dYes := pts_yes
theorem ts1 {t : DT} (h : DTe X W0 e t) : DTs X [e] t := pts_one (pt_any h)
theorem eLc {elt tg iter : Expr} {ifs : List Expr} {scope : Scope} {own : List (Str × Nat)} {it : DI} {q : Pat} {t : DT} (hc : X.calm = true) (hN : X.N.Nodup) (ok : blkC X.N X.env.scope scope own = true) (hi : DIt X W tg iter it)
    (h : ∀ (s : Shared) (H : Hp) (C : Addr) (cl : List (Str × Addr)) (fp : List Addr), DGt (X.blk s H scope (compEnvC scope cl C X.env) fp) tg q ∧ DTs (X.blk s H scope (compEnvC scope cl C X.env) fp) ifs t ∧ DE (X.blk s H scope (compEnvC scope cl C X.env) fp) W0 elt f)
    (hv : (q.sl.all fun i => (own.map (·.2)).contains i) = true := by rfl) (hs : ∀ x, foldedSetIterable iter X.env x = pure x := by intro _; rfl) : DE X W (.ListComp elt [⟨tg, iter, ifs, 0⟩] scope pos) (dLc it q t f (own.map (·.2))) :=
  de_lc hc hN hi (blkOk_by ok) (fun s H C cl fp => (h s H C cl fp).1) (fun s H C cl fp => (h s H C cl fp).2.1) (fun s H C cl fp => (h s H C cl fp).2.2) (fun i hi => by simpa using List.all_eq_true.mp hv i hi) hs
/-! ### statements -/
theorem sSet {k : Bool} (i : Nat) (hN : X.N.Nodup) (he : DE X W e f) (hi : X.N[i]? = some x := by rfl) (hx : Loc X.env.scope x := by first | exact .inl rfl | exact .inr rfl) (hs : swapsWith e (some (.Name x p)) pos.line X.env = pure false := by rfl) (hf : X.fn x = true ∨ X.env.scope.names.lookup x = some .local := by first | exact .inl rfl | exact .inr rfl) :
    DSt X W (.Assign [.Name x p] e pos) (dSet i k f) := ds_set hN hi hx he hs hf
theorem sSetLc {k : Bool} {cpos : Pos} {elt tg iter : Expr} {ifs : List Expr} {scope : Scope} {own : List (Str × Nat)} {it : DI} {q : Pat} {t : DT} (i : Nat) (hc : X.calm = true) (hN : X.N.Nodup) (ok : blkC X.N X.env.scope scope own = true) (hi : DIt X W tg iter it)
    (h : ∀ (s : Shared) (H : Hp) (C : Addr) (cl : List (Str × Addr)) (fp : List Addr), DGt (X.blk s H scope (compEnvC scope cl C X.env) fp) tg q ∧ DTs (X.blk s H scope (compEnvC scope cl C X.env) fp) ifs t ∧ DE (X.blk s H scope (compEnvC scope cl C X.env) fp) W0 elt f)
    (hy : X.N[i]? = some x := by rfl) (hyl : X.env.scope.names.lookup x = some .local := by rfl) (hsw : swapsWith (.ListComp elt [⟨tg, iter, ifs, 0⟩] scope cpos) (some (.Name x p)) pos.line X.env = pure true := by rfl)
    (hv : (q.sl.all fun i => (own.map (·.2)).contains i) = true := by rfl) (hs : ∀ x, foldedSetIterable iter X.env x = pure x := by intro _; rfl) : DSt X W (.Assign [.Name x p] (.ListComp elt [⟨tg, iter, ifs, 0⟩] scope cpos) pos) (dSet i k (dLc it q t f (own.map (·.2)))) :=
  ds_setLc hc hN hy hyl hsw hi (blkOk_by ok) (fun s H C cl fp => (h s H C cl fp).1) (fun s H C cl fp => (h s H C cl fp).2.1) (fun s H C cl fp => (h s H C cl fp).2.2) (fun i hi => by simpa using List.all_eq_true.mp hv i hi) hs
theorem sUn {tg : Expr} {q : Pat} (he : DE X W e f) (hg : DGt X tg q) (hs : swapsWithSole [tg] e pos.line X.env = pure false := by rfl) (hw : swappedStores [tg] e X.env = pure none := by rfl) (h1 : (assignEach [tg] X.env).map (·.2) = [assign tg X.env] := by rfl) : DSt X W (.Assign [tg] e pos) (dUn q f) := ds_un he hg hs hw h1
theorem sPut {ps : Pos} (i : Nat) (hi : DE X W a g) (he : DE X W e f) (hN : X.N[i]? = some x := by rfl) (hv : Vis X.env.scope x := by first | exact .inl rfl | exact .inr (.inl rfl) | exact .inr (.inr rfl)) (hd : (x == ("__debug__" : Str)) = false := by decide) (hcd : (x == ("__classdict__" : Str)) = false := by decide)
    (ha : ∀ v, assign (.Subscript (.Name x p) a ps) X.env v = (do
      let ov ← holding [v] (eval (.Name x p) X.env)
      let iv ← holding [v, ov] (eval a X.env)
      standAt ps
      holding [v, ov, iv] (setItem ov iv v)
      release [v, ov, iv] []) := by intro _; rfl)
    (hs : swapsWithSole [.Subscript (.Name x p) a ps] e pos.line X.env = pure false := by rfl) (hw : swappedStores [.Subscript (.Name x p) a ps] e X.env = pure none := by rfl) (h1 : (assignEach [.Subscript (.Name x p) a ps] X.env).map (·.2) = [assign (.Subscript (.Name x p) a ps) X.env] := by rfl) :
    DSt X W (.Assign [.Subscript (.Name x p) a ps] e pos) (dPut i g f) := ds_put hN hv hd hcd hi he ha hs hw h1
theorem sPar {is : List Nat} {xs : List Str} {tes : List Expr} {q : DP} {pt pt2 : Pos} {kt k2 : Nat} (hc : X.calm = true) (hN : X.N.Nodup) (ha : DPs X W es q) (hp : Paired (fun i x => X.N[i]? = some x ∧ X.env.scope.names.lookup x = some .local) is xs)
    (hw : swappedStores [.Tuple tes kt pt] (.Tuple es k2 pt2) X.env = pure (some xs) := by rfl) (hs : swapsWithSole [.Tuple tes kt pt] (.Tuple es k2 pt2) pos.line X.env = pure false := by rfl) (hz : xs.length ≤ sizeLine := by decide) :
    DSt X W (.Assign [.Tuple tes kt pt] (.Tuple es k2 pt2) pos) (dPar is q) := ds_par hc hN hp ha hz hw hs
theorem sE (he : DE X W e f) (hs : swapsWith e none pos.line X.env = pure false := by rfl) : DSt X W (.Expr e pos) (dDrop f) := ds_expr he hs
theorem sFor {tg iter : Expr} {body : List Stmt} {it : DI} {q : Pat} {d : DS} (hp : PassesOwn (model X.prog X.w) X.A X.env X.xe) (hc : X.calm = true) (hi : DIt X W tg iter it) (hg : DGt X tg q) (hb : DSs X W body d) (hs : ∀ x, foldedSetIterable iter X.env x = pure x := by intro _; rfl) :
    DSt X W (.For tg iter body [] pos) (dFor it q d) := ds_for hp hc hi hg hb hs
theorem mAppend {ff : DF} (i : Nat) (ha : DFs X W (e :: es) ff) (hN : X.N[i]? = some x := by rfl) (hv : Vis X.env.scope x := by first | exact .inl rfl | exact .inr (.inl rfl) | exact .inr (.inr rfl)) (hd : (x == ("__debug__" : Str)) = false := by decide) (hcd : (x == ("__classdict__" : Str)) = false := by decide)
    (hbase : attributeBase (.Name x npos) "append" X.env (eval (.Name x npos) X.env) = eval (.Name x npos) X.env := by rfl)
    (hfew : ((backTo pos (starEach (e :: es) X.env)).all (fun x => !x.1) && (backToKw pos (keywordEach [] X.env)).all (fun x => x.1.isSome) && decide ((e :: es).length + ([] : List Keyword).length + (if ([] : List Keyword).isEmpty then 0 else 1) < 30)) = true := by rfl)
    (hline : (apos.endLine == pos.line) = true := by rfl) (hs : starEach (e :: es) X.env = (false, eval e X.env) :: starEach es X.env := by rfl) (hplain : (backTo pos (starEach es X.env)).any (·.1) = false := by rfl) :
    DE X W (.Call (.Attribute (.Name x npos) "append" apos) (e :: es) [] pos) (dM appendO i ff) := de_m hN hv hd hcd slot_list_append (by first | rfl | kernel_rfl) mt_appendD ha hbase hfew hline hs hplain
theorem mPop {ff : DF} (i : Nat) (ha : DFs X W (e :: es) ff) (hN : X.N[i]? = some x := by rfl) (hv : Vis X.env.scope x := by first | exact .inl rfl | exact .inr (.inl rfl) | exact .inr (.inr rfl)) (hd : (x == ("__debug__" : Str)) = false := by decide) (hcd : (x == ("__classdict__" : Str)) = false := by decide)
    (hbase : attributeBase (.Name x npos) "pop" X.env (eval (.Name x npos) X.env) = eval (.Name x npos) X.env := by rfl)
    (hfew : ((backTo pos (starEach (e :: es) X.env)).all (fun x => !x.1) && (backToKw pos (keywordEach [] X.env)).all (fun x => x.1.isSome) && decide ((e :: es).length + ([] : List Keyword).length + (if ([] : List Keyword).isEmpty then 0 else 1) < 30)) = true := by rfl)
    (hline : (apos.endLine == pos.line) = true := by rfl) (hs : starEach (e :: es) X.env = (false, eval e X.env) :: starEach es X.env := by rfl) (hplain : (backTo pos (starEach es X.env)).any (·.1) = false := by rfl) :
    DE X W (.Call (.Attribute (.Name x npos) "pop" apos) (e :: es) [] pos) (dM popO i ff) := de_m hN hv hd hcd PySem.F.slot_list_pop (by first | rfl | kernel_rfl) mt_popD ha hbase hfew hline hs hplain
end
/-! ### a def's body -/
section
variable {P : Program} {w : World} {K : PySem.W.Frag} {mg : Str → Option Value} {base : Heap} {N : List Str} {qual : Str} {scope : Scope} {f : Addr} {cd : Value} {A : Around} {outer : List Env} {s : Shared} {H : Hp} {E : XK} {k : Nat}
theorem bodyGd (hr : Room k (A.deeper (envOfC qual scope s.heap.objs.size f cd))) (hg : A.guards = some []) : Gd (bodyX P w K mg base N qual scope f cd A outer s H E) k := ⟨rfl, hr, hg⟩
theorem bodyTk : Takes (bodyX P w K mg base N qual scope f cd A outer s H E) (fun cls d _ H => E cls d H) := takes_of rfl rfl rfl rfl
theorem bodyPs : PassesOwn (model P w) (bodyX P w K mg base N qual scope f cd A outer s H E).A (bodyX P w K mg base N qual scope f cd A outer s H E).env (bodyX P w K mg base N qual scope f cd A outer s H E).xe := passes_of rfl
end
/-- a def's promise from its body -/
theorem has_of {P : Program} {w : World} {K : PySem.W.Frag} {mg : Str → Option Value} {base : Heap} {x : Str} {st : Stmt} {N ps : List Str} {k : Nat} {b : DS} {f : Addr} {fd : FuncData} (hm : mg x = some (.ref f)) (F : FunD K x x (defArgs st) (defBody st) (defScope st) [] [] f fd) (S : FnScope N ps (defScope st))
    (hbind : ∀ (kV doc pm : Value) (an : Option Addr) (cdv ct : Value) (us : List Value), us.length = ps.length → bindArgs (PySem.W.fnOf x x (defArgs st) (defBody st) (defScope st) .none kV doc pm an cdv ct) ⟨us, []⟩ = pure (ps.zip us))
    (hb : ∀ (cdv : Value) (A : Around) (outer : List Env) (s : Shared) (H : Hp) (E : XK), Gd (bodyX P w K mg base N x (defScope st) f cdv A outer s H E) k → Takes (bodyX P w K mg base N x (defScope st) f cdv A outer s H E) (fun cls d _ H => E cls d H) →
      PassesOwn (model P w) (bodyX P w K mg base N x (defScope st) f cdv A outer s H E).A (bodyX P w K mg base N x (defScope st) f cdv A outer s H E).env (bodyX P w K mg base N x (defScope st) f cdv A outer s H E).xe →
      DSs (bodyX P w K mg base N x (defScope st) f cdv A outer s H E) (fun cls d _ H => E cls d H) (defBody st) b) : Has P w K mg base x st (k + 1) ps (fnOfD N.length b) :=
  ⟨f, fd, hm, F, F.bindsN hbind, fnG_of F S fun cdv A outer s H E hr hg => hb cdv A outer s H E (bodyGd hr hg) bodyTk bodyPs⟩
theorem Has.up {P : Program} {w : World} {K : PySem.W.Frag} {mg : Str → Option Value} {base : Heap} {x : Str} {st : Stmt} {ps : List Str} {j k : Nat} {φ : Fn} (h : Has P w K mg base x st j ps φ) (hj : j ≤ k) : Has P w K mg base x st k ps φ := by
  obtain ⟨f, fd, h1, h2, h3, h4⟩ := h.ex
  exact ⟨f, fd, h1, h2, h3, h4.up hj⟩
end Dn
namespace Dn
open PySem PySem.Spec PyProof.Rows L2
/-- K holds one function object at an address -/
theorem funD_one {K : PySem.W.Frag} {x q : Str} {params : Arguments} {body : List Stmt} {scope : Scope} {dvs dvs' : List V} {kws kws' : List (Str × V)} {f : Addr} {fd fd' : FuncData} (h : FunD K x q params body scope dvs kws f fd) (h' : FunD K x q params body scope dvs' kws' f fd') : fd = fd' := by
  obtain ⟨_, _, _, _, _, _, _, _, _, _, _, e, _⟩ := h.ex
  obtain ⟨_, _, _, _, _, _, _, _, _, _, _, e', _⟩ := h'.ex
  rw [e] at e'
  cases e'
  rfl
end Dn
namespace Dn
open PySem PySem.Spec PyProof.Rows L2
/-! ### isinstance with a built-in type -/
def tyN : PyData → String
  | .none => "NoneType"
  | .bool _ => "bool"
  | .int _ => "int"
  | .str _ => "str"
  | .list _ => "list"
  | .tuple _ => "tuple"
  | .dict _ => "dict"
theorem opr_ty {K : PySem.W.Frag} {G H : Hp} {v : V} {d : PyData} (h : Opr G H v d) (m : Same G H) : TyX K H v (.type (tyN d)) := by
  cases d with
  | none => obtain rfl := opr_non h; exact .base .non
  | bool b => obtain rfl := opr_bl h; exact .base (.bl b)
  | int i => obtain rfl := opr_int h; exact .base (.int i)
  | str x => obtain rfl := opr_str h; exact .base (.str x)
  | list ds => obtain ⟨a, vs, rfl, ha, _⟩ := opr_lst h m; exact .base (.lst ha)
  | tuple ds => obtain ⟨a, vs, rfl, ha, _, _⟩ := opr_tup h m; exact .base (.tup ha)
  | dict ds => exact (opr_dict h).elim
def isiK (T : String) (v : DV) (r : DEnv) : R (DV × DEnv) := match pk v r with
  | some d => (match kitB (tyN d) T with
    | some b => .ok (.dat (.bool b), r)
    | none => .stuck)
  | none => .stuck
def dIsi (T : String) (f : DX) : DX := fun r => (opd f r).bind fun p => isiK T p.1 p.2
section
variable {X : Cx} {W : WX} {x : Str} {p q pos : Pos} {e : Expr} {f : DX} {T : String}
theorem eIsi (hm : X.mg "isinstance" = none) (hmT : X.mg x = none) (hvT : bootBuiltins x = some (.type T)) (he : DE X W e f) (hg : Gl X "isinstance" := by rfl) (hgT : Gl X x := by rfl) (hnT : x ≠ "__name__" := by decide) (hdT : (x == ("__debug__" : Str)) = false := by decide)
    (hs : starEach [e, .Name x q] X.env = (false, eval e X.env) :: starEach [.Name x q] X.env := by rfl) (hs2 : starEach [.Name x q] X.env = (false, eval (.Name x q) X.env) :: starEach [] X.env := by rfl) (hpl : (backTo pos (starEach [.Name x q] X.env)).any (·.1) = false := by rfl) :
    DE X W (.Call (.Name "isinstance" p) [e, .Name x q] [] pos) (dIsi T f) := fun fr T' =>
  pe_imp (pe_callB (r := rIsi X.K) call_isi hg hm boot_isinstance (pa_cons (he fr T') (pa_cons (pe_bltn (v := .ty T) hgT hmT hvT rfl hnT hdT) pa_nil hs2) hs) (by decide) (by decide) hs hpl) fun s H Q ⟨G, r, rel, o⟩ => by
    refine opd_bindO (g := fun v r1 => isiK T v r1) (ocX Q) rel o fun G1 r1 v H1 dv m rel1 ov o1 => ?_
    have o1 : out X W fr T' G1 s (isiK T dv r1) Q := o1
    unfold isiK at o1
    cases hp : pk dv r1 with
    | none => rw [hp] at o1; exact o1.elim
    | some d =>
      rw [hp] at o1
      dsimp only at o1
      cases hk : kitB (tyN d) T with
      | none => rw [hk] at o1; exact o1.elim
      | some b =>
        rw [hk] at o1
        exact ⟨v, .ty T, .type (tyN d), .type T, b, rfl, .ty T, opr_ty (opr_of rel1 ov hp) rel1.sub, kit_ty hk, o1 _ H1 ⟨G1, .refl _, rel1, .bl b⟩⟩
end
end Dn
namespace Dn
open PySem PySem.Spec PyProof.Rows L2
theorem nr {A : Sort _} {a b : A} (h : a = b) : a = b := h
/-! ### wanted ends of the readings -/
abbrev EX := Str → List PyData → DEnv → Prop
def optQ {A : Type} (o : Option A) (P : A → Prop) : Prop := match o with
  | some a => P a
  | none => False
def okQ {A : Type} (Q : A → Prop) (E : EX) (x : R A) : Prop := match x with
  | .ok a => Q a
  | .exc c fs r => E c fs r
  | .stuck => False
def wX (f : DX) (r : DEnv) (Q : DV → DEnv → Prop) (E : EX) : Prop := okQ (fun p => Q p.1 p.2) E (f r)
def wO (f : DX) (r : DEnv) (Q : DV → DEnv → Prop) (E : EX) : Prop := okQ (fun p => Q p.1 p.2) E (opd f r)
def wZ (f : DX) (r : DEnv) (Q : PyData → DEnv → Prop) (E : EX) : Prop := okQ (fun p => Q p.1 p.2) E (frzE f r)
def wT (f : DT) (r : DEnv) (Q : Bool → DEnv → Prop) (E : EX) : Prop := okQ (fun p => Q p.1 p.2) E (f r)
def wA (f : DA) (r : DEnv) (Q : List DV → DEnv → Prop) (E : EX) : Prop := okQ (fun p => Q p.1 p.2) E (f r)
def wD (f : DF) (r : DEnv) (Q : List PyData → DEnv → Prop) (E : EX) : Prop := okQ (fun p => Q p.1 p.2) E (f r)
def wP (f : DP) (r : DEnv) (Q : List Sl → DEnv → Prop) (E : EX) : Prop := okQ (fun p => Q p.1 p.2) E (f r)
def wN (f : DO) (r : DEnv) (Q : Option Int → DEnv → Prop) (E : EX) : Prop := okQ (fun p => Q p.1 p.2) E (f r)
def wS (f : DS) (r : DEnv) (P : RS → Prop) : Prop := match f r with
  | .stuck => False
  | x => P x
def xS (P : RS → Prop) : EX := fun c fs r => P (.exc c fs r)
section
variable {A : Type}
theorem optQ_some (a : A) (P : A → Prop) : optQ (some a) P = P a := nr rfl
theorem optQ_none (P : A → Prop) : optQ none P = False := nr rfl
theorem optQ_ite (c : Prop) [Decidable c] (a : A) (P : A → Prop) : optQ (if c then some a else none) P = (c ∧ P a) := by
  by_cases h : c
  · rw [if_pos h, eq_true h, true_and]; rfl
  · rw [if_neg h, eq_false h, false_and]; rfl
end
section
variable {r : DEnv} {E : EX} {P : RS → Prop}
theorem okQ_ok {A : Type} (Q : A → Prop) (a : A) : okQ Q E (.ok a) = Q a := nr rfl
theorem okQ_bind {A B : Type} (x : R A) (f : A → R B) (Q : B → Prop) : okQ Q E (x.bind f) = okQ (fun a => okQ Q E (f a)) E x := by cases x <;> rfl
theorem okQ_opt {A B : Type} (x : Option A) (f : A → B) (Q : B → Prop) : okQ Q E (match x with | some a => .ok (f a) | none => .stuck) = optQ x fun a => Q (f a) := by cases x <;> rfl
/-! expressions -/
theorem wX_var (i : Nat) (Q : DV → DEnv → Prop) : wX (dVar i) r Q E = (match r[i]? with
  | some (some (.dat d)) => Q (.dat d) r
  | some (some (.own _ _)) => Q (.loc i) r
  | some (some (.fn f)) => Q (.fn f) r
  | some (some (.scr ns)) => Q (.scr ns) r
  | _ => False) := by
  unfold wX dVar
  generalize r[i]? = z
  cases z with
  | none => rfl
  | some z =>
    cases z with
    | none => rfl
    | some z => cases z <;> rfl
theorem wX_C (d : PyData) (Q : DV → DEnv → Prop) : wX (dC d) r Q E = Q (.dat d) r := nr rfl
def opQ (v : DV) (Q : DV → Prop) : Prop := match v with
  | .own (.lst xs) => Q (.dat (.list xs))
  | .own (.dic _) => False
  | .pr _ _ => False
  | v => Q v
theorem wO_eq (f : DX) (Q : DV → DEnv → Prop) : wO f r Q E = wX f r (fun v r1 => opQ v fun v => Q v r1) E := by
  unfold wO wX opd
  rw [okQ_bind]
  congr 1
  funext p
  obtain ⟨v, r1⟩ := p
  cases v with
  | own o => cases o <;> rfl
  | _ => rfl
theorem wZ_eq (f : DX) (Q : PyData → DEnv → Prop) : wZ f r Q E = wX f r (fun v r1 => optQ (frz v r1) fun p => Q p.1 p.2) E := by
  unfold wZ wX frzE
  rw [okQ_bind]
  congr 1
  funext p
  dsimp only
  cases frz p.1 p.2 <;> rfl
theorem wX_bin (op : Op2) (f g : DX) (Q : DV → DEnv → Prop) : wX (dBin op f g) r Q E = wO f r (fun a r1 => wO g r1 (fun b r2 => optQ (pk a r2) fun x => optQ (pk b r2) fun y => optQ (op x y) fun dv => Q dv r2) E) E := by
  unfold wX dBin wO
  rw [okQ_bind]
  congr 1
  funext p
  rw [okQ_bind]
  congr 1
  funext q
  unfold binK
  dsimp only
  cases h1 : pk p.1 q.2 with
  | none => rfl
  | some x =>
    cases h2 : pk q.1 q.2 with
    | none => rfl
    | some y =>
      show okQ _ E (match op x y with | some dv => _ | none => _) = optQ (op x y) _
      cases op x y <;> rfl
theorem wX_if (c : DT) (f g : DX) (Q : DV → DEnv → Prop) : wX (dIf c f g) r Q E = wT c r (fun b r1 => if b = true then wX f r1 Q E else wX g r1 Q E) E := by
  unfold wX dIf wT
  rw [okQ_bind]
  congr 1
  funext p
  obtain ⟨b, r1⟩ := p
  cases b <;> simp
theorem wX_andV (f g : DX) (Q : DV → DEnv → Prop) : wX (dAndV f g) r Q E = wO f r (fun v r1 => ∃ b, v = .dat (.bool b) ∧ if b = true then wX g r1 Q E else Q (.dat (.bool false)) r1) E := by
  unfold wX dAndV wO
  rw [okQ_bind]
  congr 1
  funext p
  obtain ⟨v, r1⟩ := p
  cases v with
  | dat d =>
    cases d with
    | bool b => cases b <;> simp [okQ]
    | _ => simp [okQ]
  | _ => simp [okQ]
theorem wX_orV (f g : DX) (Q : DV → DEnv → Prop) : wX (dOrV f g) r Q E = wO f r (fun v r1 => ∃ b, v = .dat (.bool b) ∧ if b = true then Q (.dat (.bool true)) r1 else wX g r1 Q E) E := by
  unfold wX dOrV wO
  rw [okQ_bind]
  congr 1
  funext p
  obtain ⟨v, r1⟩ := p
  cases v with
  | dat d =>
    cases d with
    | bool b => cases b <;> simp [okQ]
    | _ => simp [okQ]
  | _ => simp [okQ]
theorem wX_notV (f : DX) (Q : DV → DEnv → Prop) : wX (dNotV f) r Q E = wO f r (fun v r1 => ∃ b, v = .dat (.bool b) ∧ Q (.dat (.bool !b)) r1) E := by
  unfold wX dNotV wO
  rw [okQ_bind]
  congr 1
  funext p
  obtain ⟨v, r1⟩ := p
  cases v with
  | dat d =>
    cases d with
    | bool b => simp [okQ]
    | _ => simp [okQ]
  | _ => simp [okQ]
theorem wT_B (f : DX) (Q : Bool → DEnv → Prop) : wT (dB f) r Q E = wO f r (fun v r1 => ∃ b, v = .dat (.bool b) ∧ Q b r1) E := by
  unfold wT dB wO
  rw [okQ_bind]
  congr 1
  funext p
  obtain ⟨v, r1⟩ := p
  cases v with
  | dat d =>
    cases d with
    | bool b => simp [okQ]
    | _ => simp [okQ]
  | _ => simp [okQ]
theorem wT_and (f g : DT) (Q : Bool → DEnv → Prop) : wT (dAnd f g) r Q E = wT f r (fun b r1 => if b = true then wT g r1 Q E else Q false r1) E := by
  unfold wT dAnd
  rw [okQ_bind]
  congr 1
  funext p
  obtain ⟨b, r1⟩ := p
  cases b <;> simp [okQ]
theorem wT_or (f g : DT) (Q : Bool → DEnv → Prop) : wT (dOr f g) r Q E = wT f r (fun b r1 => if b = true then Q true r1 else wT g r1 Q E) E := by
  unfold wT dOr
  rw [okQ_bind]
  congr 1
  funext p
  obtain ⟨b, r1⟩ := p
  cases b <;> simp [okQ]
theorem wT_not (f : DT) (Q : Bool → DEnv → Prop) : wT (dNot f) r Q E = wT f r (fun b r1 => Q (!b) r1) E := by
  unfold wT dNot
  rw [okQ_bind]
  rfl
theorem wT_yes (Q : Bool → DEnv → Prop) : wT dYes r Q E = Q true r := nr rfl
/-! lists of values -/
theorem wA_nil (Q : List DV → DEnv → Prop) : wA dNil r Q E = Q [] r := nr rfl
theorem wA_cons (f : DX) (g : DA) (Q : List DV → DEnv → Prop) : wA (dCons f g) r Q E = wO f r (fun v r1 => wA g r1 (fun vs r2 => Q (v :: vs) r2) E) E := by
  unfold wA dCons wO
  rw [okQ_bind]
  congr 1
  funext p
  rw [okQ_bind]
  rfl
theorem wD_nil (Q : List PyData → DEnv → Prop) : wD dfNil r Q E = Q [] r := nr rfl
theorem wD_cons (f : DX) (g : DF) (Q : List PyData → DEnv → Prop) : wD (dfCons f g) r Q E = wZ f r (fun v r1 => wD g r1 (fun vs r2 => Q (v :: vs) r2) E) E := by
  unfold wD dfCons wZ
  rw [okQ_bind]
  congr 1
  funext p
  rw [okQ_bind]
  rfl
theorem wP_nil (Q : List Sl → DEnv → Prop) : wP dpNil r Q E = Q [] r := nr rfl
theorem wP_cons (k : Bool) (f : DX) (g : DP) (Q : List Sl → DEnv → Prop) : wP (dpCons k f g) r Q E = wX f r (fun v r1 => optQ (keepV k v r1) fun q => wP g q.2 (fun vs r2 => Q (q.1 :: vs) r2) E) E := by
  unfold wP dpCons wX
  rw [okQ_bind]
  congr 1
  funext p
  dsimp only
  cases h : keepV k p.1 p.2 with
  | none => rfl
  | some q =>
    show okQ _ E ((g q.2).bind _) = okQ _ E (g q.2)
    rw [okQ_bind]
    rfl
theorem wX_tup (f : DF) (Q : DV → DEnv → Prop) : wX (dTup f) r Q E = wD f r (fun ds r1 => ds.length ≤ sizeLine ∧ Q (.dat (.tuple ds)) r1) E := by
  unfold wX dTup wD
  rw [okQ_bind]
  congr 1
  funext p
  dsimp only
  by_cases h : p.1.length ≤ sizeLine
  · rw [if_pos h, eq_true h, true_and]; rfl
  · rw [if_neg h, eq_false h, false_and]; rfl
theorem wX_lst (f : DF) (Q : DV → DEnv → Prop) : wX (dLst f) r Q E = wD f r (fun ds r1 => ds.length ≤ sizeLine ∧ Q (.own (.lst ds)) r1) E := by
  unfold wX dLst wD
  rw [okQ_bind]
  congr 1
  funext p
  dsimp only
  by_cases h : p.1.length ≤ sizeLine
  · rw [if_pos h, eq_true h, true_and]; rfl
  · rw [if_neg h, eq_false h, false_and]; rfl
theorem wX_cb (op : OpN) (f : DA) (Q : DV → DEnv → Prop) : wX (dCB op f) r Q E = wA f r (fun vs r1 => optQ (pks vs r1) fun ds => optQ (op ds) fun dv => Q dv r1) E := by
  unfold wX dCB wA
  rw [okQ_bind]
  congr 1
  funext p
  unfold cbK
  dsimp only
  cases h1 : pks p.1 p.2 with
  | none => rfl
  | some ds =>
    show okQ _ E (match op ds with | some dv => _ | none => _) = optQ (op ds) _
    cases op ds <;> rfl
theorem wN_no (Q : Option Int → DEnv → Prop) : wN dNo r Q E = Q none r := nr rfl
theorem wN_part (f : DX) (Q : Option Int → DEnv → Prop) : wN (dPart f) r Q E = wO f r (fun v r1 => ∃ i, v = .dat (.int i) ∧ Q (some i) r1) E := by
  unfold wN dPart wO
  rw [okQ_bind]
  congr 1
  funext p
  obtain ⟨v, r1⟩ := p
  cases v with
  | dat d =>
    cases d with
    | int b => simp [okQ]
    | _ => simp [okQ]
  | _ => simp [okQ]
def slQ (a : DV) (lo hi : Option Int) (r : DEnv) (Q : DV → Prop) : Prop := match a with
  | .scr ns => Q (.own (.lst (cutL (ns.map PyData.int) lo hi)))
  | a => optQ (pk a r) fun d => optQ (slD d lo hi) Q
theorem wX_slice (f : DX) (lo hi : DO) (Q : DV → DEnv → Prop) : wX (dSlice f lo hi) r Q E = wO f r (fun a r1 => wN lo r1 (fun l r2 => wN hi r2 (fun h r3 => slQ a l h r3 fun v => Q v r3) E) E) E := by
  unfold wX dSlice wO
  rw [okQ_bind]
  congr 1
  funext p
  unfold wN
  rw [okQ_bind]
  congr 1
  funext q
  rw [okQ_bind]
  congr 1
  funext t
  obtain ⟨a, r1⟩ := p
  have key : ∀ a : DV, okQ (fun p : DV × DEnv => Q p.1 p.2) E (match pk a t.2 with
    | some d => (match slD d q.1 t.1 with
      | some dv => .ok (dv, t.2)
      | none => .stuck)
    | none => .stuck) = optQ (pk a t.2) fun d => optQ (slD d q.1 t.1) fun v => Q v t.2 := fun a => by
    cases pk a t.2 with
    | none => rfl
    | some d =>
      show okQ _ E (match slD d q.1 t.1 with | some dv => _ | none => _) = optQ (slD d q.1 t.1) _
      cases slD d q.1 t.1 <;> rfl
  cases a with
  | scr ns => rfl
  | dat d => exact key (.dat d)
  | own d => exact key (.own d)
  | loc d => exact key (.loc d)
  | fn d => exact key (.fn d)
  | pr d o => exact key (.pr d o)
def ownL (z : Option (Option Sl)) : Option (Bool × List PyData) := match z with
  | some (some (.own b (.lst ys))) => some (b, ys)
  | _ => none
theorem wX_m (op : OpM) (i : Nat) (f : DF) (Q : DV → DEnv → Prop) : wX (dM op i f) r Q E = optQ (ownL r[i]?) fun _ => wD f r (fun ds r1 => optQ (ownL r1[i]?) fun q => optQ (op q.2 ds) fun p => Q (.dat p.1) (r1.set i (some (.own q.1 (.lst p.2))))) E := by
  have inner : ∀ (p : List PyData × DEnv), okQ (fun p => Q p.1 p.2) E (mK op i p.1 p.2) = optQ (ownL p.2[i]?) fun q => optQ (op q.2 p.1) fun z => Q (.dat z.1) (p.2.set i (some (.own q.1 (.lst z.2)))) := fun p => by
    unfold mK
    generalize p.2[i]? = z
    cases z with
    | none => rfl
    | some z =>
      cases z with
      | none => rfl
      | some z =>
        cases z with
        | own b o =>
          cases o with
          | lst ys =>
            show okQ _ E (match op ys p.1 with | some (d, zs) => _ | none => _) = optQ (op ys p.1) _
            cases op ys p.1 <;> rfl
          | dic kvs => rfl
        | _ => rfl
  have outer : ∀ z : Option (Option Sl), okQ (fun p => Q p.1 p.2) E (match z with
    | some (some (.own _ (.lst _))) => (f r).bind fun p => mK op i p.1 p.2
    | _ => .stuck) = optQ (ownL z) fun _ => okQ (fun a => okQ (fun p => Q p.1 p.2) E (mK op i a.1 a.2)) E (f r) := fun z => by
    cases z with
    | none => rfl
    | some z =>
      cases z with
      | none => rfl
      | some z =>
        cases z with
        | own b o =>
          cases o with
          | lst ys => exact okQ_bind _ _ _
          | dic kvs => rfl
        | _ => rfl
  unfold wX dM wD
  refine (outer _).trans ?_
  congr 1
  funext _
  congr 1
  funext p
  exact inner p
theorem wX_lr2 (f g : DX) (Q : DV → DEnv → Prop) : wX (dLr2 f g) r Q E = wO f r (fun a r1 => wO g r1 (fun b r2 => ∃ i j, a = .dat (.int i) ∧ b = .dat (.int j) ∧ (big62 i = true ∧ big62 j = true ∧ (j - i).toNat ≤ 2 ^ 24) ∧ Q (.own (.lst (rangeL i (j - i).toNat))) r2) E) E := by
  unfold wX dLr2 wO
  rw [okQ_bind]
  congr 1
  funext p
  rw [okQ_bind]
  congr 1
  funext q
  obtain ⟨a, r1⟩ := p
  obtain ⟨b, r2⟩ := q
  cases a with
  | dat d =>
    cases d with
    | int i =>
      cases b with
      | dat d =>
        cases d with
        | int j =>
          show okQ _ E (rgK i j r2) = _
          unfold rgK
          by_cases h : big62 i = true ∧ big62 j = true ∧ (j - i).toNat ≤ 2 ^ 24
          · rw [if_pos h]
            refine propext ⟨fun z => ⟨i, j, rfl, rfl, h, z⟩, fun ⟨i', j', e1, e2, _, z⟩ => ?_⟩
            cases e1; cases e2; exact z
          · rw [if_neg h]
            refine propext ⟨fun z => z.elim, fun ⟨i', j', e1, e2, z, _⟩ => ?_⟩
            cases e1; cases e2; exact h z
        | _ => simp [okQ]
      | _ => simp [okQ]
    | _ => simp [okQ]
  | _ => simp [okQ]
theorem wX_lr1 (f : DX) (Q : DV → DEnv → Prop) : wX (dLr1 f) r Q E = wO f r (fun b r2 => ∃ j, b = .dat (.int j) ∧ (big62 0 = true ∧ big62 j = true ∧ (j - 0).toNat ≤ 2 ^ 24) ∧ Q (.own (.lst (rangeL 0 (j - 0).toNat))) r2) E := by
  unfold wX dLr1 wO
  rw [okQ_bind]
  congr 1
  funext q
  obtain ⟨b, r2⟩ := q
  cases b with
  | dat d =>
    cases d with
    | int j =>
      show okQ _ E (rgK 0 j r2) = _
      unfold rgK
      by_cases h : big62 0 = true ∧ big62 j = true ∧ (j - 0).toNat ≤ 2 ^ 24
      · rw [if_pos h]
        refine propext ⟨fun z => ⟨j, rfl, h, z⟩, fun ⟨j', e2, _, z⟩ => ?_⟩
        cases e2; exact z
      · rw [if_neg h]
        refine propext ⟨fun z => z.elim, fun ⟨j', e2, z, _⟩ => ?_⟩
        cases e2; exact h z
    | _ => simp [okQ]
  | _ => simp [okQ]
/-! calls -/
@[irreducible] def wF (φ : Fn) (args : List Sl) (Q : DV → List Ob → Prop) (E : Str → List PyData → List Ob → Prop) : Prop := match φ args with
  | .ok dv os => Q dv os
  | .exc c fs os => E c fs os
  | .stuck => False
def wC (φ : Fn) (md : List Bool) (dvs : List DV) (r : DEnv) (Q : DV → DEnv → Prop) (E : EX) : Prop :=
  optQ (frzA md dvs r) fun p => optQ (colA p.1 p.2) fun q => q.2.Nodup ∧ wF φ q.1 (fun dv os => Q dv (putBack q.2 os p.2)) fun c fs os => E c fs (putBack q.2 os p.2)
theorem okQ_callK (φ : Fn) (md : List Bool) (dvs : List DV) (Q : DV → DEnv → Prop) : okQ (fun p => Q p.1 p.2) E (callK φ md dvs r) = wC φ md dvs r Q E := by
  unfold callK wC
  cases h1 : frzA md dvs r with
  | none => rfl
  | some p =>
    obtain ⟨q, r1⟩ := p
    show okQ _ E (match colA q r1 with | some (args, js) => _ | none => _) = optQ (colA q r1) _
    cases h2 : colA q r1 with
    | none => rfl
    | some z =>
      obtain ⟨args, js⟩ := z
      show okQ _ E (if js.Nodup then runF (φ args) js r1 else .stuck) = (js.Nodup ∧ _)
      by_cases h : js.Nodup
      · rw [if_pos h, eq_true h, true_and]
        unfold wF runF
        cases φ args <;> rfl
      · rw [if_neg h, eq_false h, false_and]
        rfl
theorem wX_call (φ : Fn) (md : List Bool) (f : DA) (Q : DV → DEnv → Prop) : wX (dCall φ md f) r Q E = wA f r (fun dvs r1 => wC φ md dvs r1 Q E) E := by
  unfold wX dCall wA
  rw [okQ_bind]
  congr 1
  funext p
  exact okQ_callK _ _ _ _
theorem wX_callP (φ : Fn) (md : List Bool) (π : List Nat) (f : DA) (Q : DV → DEnv → Prop) : wX (dCallP φ md π f) r Q E = wA f r (fun dvs r1 => wC φ md (perm π dvs) r1 Q E) E := by
  unfold wX dCallP wA
  rw [okQ_bind]
  congr 1
  funext p
  exact okQ_callK _ _ _ _
def finQ (dv : DV) (args : List Sl) (r : DEnv) (Q : DV → List Ob → Prop) : Prop := match dv with
  | .dat d => optQ (coll args r) fun os => Q (.dat d) os
  | .own o => optQ (coll args r) fun os => Q (.own o) os
  | .pr d o => optQ (coll args r) fun os => Q (.pr d o) os
  | _ => False
def endQ (args : List Sl) (Q : DV → List Ob → Prop) (E : Str → List PyData → List Ob → Prop) : RS → Prop
  | .nx r => finQ (.dat .none) args r Q
  | .rt dv r => finQ dv args r Q
  | .exc c fs r => optQ (coll args r) fun os => E c fs os
  | _ => False
theorem wF_of (n : Nat) (m : DS) (args : List Sl) (Q : DV → List Ob → Prop) (E : Str → List PyData → List Ob → Prop) : wF (fnOfD n m) args Q E = wS m (entry n args) (endQ args Q E) := by
  unfold wF fnOfD wS
  have fin : ∀ dv r, (match finish dv args r with
    | .ok dv os => Q dv os
    | .exc c fs os => E c fs os
    | .stuck => False) = finQ dv args r Q := fun dv r => by
    unfold finish finQ
    cases dv with
    | dat d => dsimp only; cases coll args r <;> rfl
    | own d => dsimp only; cases coll args r <;> rfl
    | pr d o => dsimp only; cases coll args r <;> rfl
    | _ => rfl
  cases m (entry n args) with
  | nx r => exact fin _ _
  | rt dv r => exact fin _ _
  | exc c fs r =>
    show (match (match coll args r with | some os => RF.exc c fs os | none => .stuck) with
      | .ok dv os => Q dv os
      | .exc c fs os => E c fs os
      | .stuck => False) = optQ (coll args r) fun os => E c fs os
    cases coll args r <;> rfl
  | _ => rfl
/-! statements -/
def seqQ (g : DS) (P : RS → Prop) : RS → Prop
  | .nx r => wS g r P
  | .rt v r => P (.rt v r)
  | .bk r => P (.bk r)
  | .ct r => P (.ct r)
  | .exc c fs r => P (.exc c fs r)
  | .stuck => False
theorem seqQ_nx (g : DS) (r : DEnv) : seqQ g P (.nx r) = wS g r P := nr rfl
theorem seqQ_rt (g : DS) (v : DV) (r : DEnv) : seqQ g P (.rt v r) = P (.rt v r) := nr rfl
theorem seqQ_bk (g : DS) (r : DEnv) : seqQ g P (.bk r) = P (.bk r) := nr rfl
theorem seqQ_ct (g : DS) (r : DEnv) : seqQ g P (.ct r) = P (.ct r) := nr rfl
theorem seqQ_exc (g : DS) (c : Str) (fs : List PyData) (r : DEnv) : seqQ g P (.exc c fs r) = P (.exc c fs r) := nr rfl
theorem wS_seq (f g : DS) : wS (dSeq f g) r P = wS f r (seqQ g P) := by
  unfold wS dSeq
  cases f r <;> rfl
theorem wS_skip : wS dSkip r P = P (.nx r) := nr rfl
theorem wS_break : wS dBreak r P = P (.bk r) := nr rfl
theorem wS_cont : wS dCont r P = P (.ct r) := nr rfl
theorem wS_stuck : wS dStuck r P = False := nr rfl
theorem wS_retN : wS dRetN r P = P (.rt (.dat .none) r) := nr rfl
theorem wS_toS {A : Type} (x : R A) (g : A → RS) : (match x.toS g with
  | .stuck => False
  | x => P x) = okQ (fun a => match g a with
    | .stuck => False
    | x => P x) (xS P) x := by cases x <;> rfl
theorem wS_drop (f : DX) : wS (dDrop f) r P = wX f r (fun _ r1 => P (.nx r1)) (xS P) := by
  unfold wS dDrop
  rw [wS_toS]
  rfl
def retQ (P : RS → Prop) (v : DV) (r : DEnv) : Prop := match v with
  | .dat d => P (.rt (.dat d) r)
  | .own o => P (.rt (.own o) r)
  | .loc i => (match r[i]? with
    | some (some (.own true o)) => P (.rt (.own o) (r.set i none))
    | some (some (.dat d)) => P (.rt (.dat d) r)
    | _ => False)
  | _ => False
theorem wS_ret (f : DX) : wS (dRet f) r P = wX f r (retQ P) (xS P) := by
  unfold wS dRet
  rw [wS_toS]
  unfold wX
  congr 1
  funext p
  obtain ⟨v, r1⟩ := p
  cases v with
  | loc i =>
    show (match retK (.loc i, r1) with
      | .stuck => False
      | x => P x) = retQ P (.loc i) r1
    unfold retK retQ
    dsimp only
    generalize r1[i]? = z
    cases z with
    | none => rfl
    | some z =>
      cases z with
      | none => rfl
      | some z =>
        cases z with
        | own b o => cases b <;> rfl
        | _ => rfl
  | _ => rfl
theorem wS_if (c : DT) (f g : DS) : wS (dIfS c f g) r P = wT c r (fun b r1 => if b = true then wS f r1 P else wS g r1 P) (xS P) := by
  unfold wS dIfS
  rw [wS_toS]
  unfold wT
  congr 1
  funext p
  obtain ⟨b, r1⟩ := p
  cases b <;> simp
theorem wS_set (i : Nat) (k : Bool) (f : DX) : wS (dSet i k f) r P = wX f r (fun v r1 => optQ (setK i k v r1) fun r2 => P (.nx r2)) (xS P) := by
  unfold wS dSet
  rw [wS_toS]
  unfold wX
  congr 1
  funext p
  dsimp only
  cases setK i k p.1 p.2 <;> rfl
theorem wS_un (p : Pat) (f : DX) : wS (dUn p f) r P = wZ f r (fun d r1 => optQ (p.f d r1) fun r2 => P (.nx r2)) (xS P) := by
  unfold wS dUn
  rw [wS_toS]
  unfold wZ
  congr 1
  funext q
  dsimp only
  cases p.f q.1 q.2 <;> rfl
theorem wS_put (i : Nat) (fi f : DX) : wS (dPut i fi f) r P = wZ f r (fun d r1 => optQ (ownL r1[i]?) fun _ => wO fi r1 (fun k r2 => ∃ j, k = .dat (.int j) ∧ optQ (ownL r2[i]?) fun q => optQ (ixN q.2.length j) fun n => P (.nx (r2.set i (some (.own q.1 (.lst (q.2.set n d))))))) (xS P)) (xS P) := by
  have inner : ∀ (d : PyData) (k : DV) (r2 : DEnv), (match putK2 i d k r2 with
    | .stuck => False
    | x => P x) = ∃ j, k = .dat (.int j) ∧ optQ (ownL r2[i]?) fun q => optQ (ixN q.2.length j) fun n => P (.nx (r2.set i (some (.own q.1 (.lst (q.2.set n d)))))) := fun d k r2 => by
    unfold putK2
    cases k with
    | dat dk =>
      cases dk with
      | int j =>
        have e : (∃ j', DV.dat (.int j) = .dat (.int j') ∧ optQ (ownL r2[i]?) fun q => optQ (ixN q.2.length j') fun n => P (.nx (r2.set i (some (.own q.1 (.lst (q.2.set n d))))))) = optQ (ownL r2[i]?) fun q => optQ (ixN q.2.length j) fun n => P (.nx (r2.set i (some (.own q.1 (.lst (q.2.set n d)))))) :=
          propext ⟨fun ⟨j', e, z⟩ => by cases e; exact z, fun z => ⟨j, rfl, z⟩⟩
        rw [e]
        dsimp only
        generalize r2[i]? = z
        cases z with
        | none => rfl
        | some z =>
          cases z with
          | none => rfl
          | some z =>
            cases z with
            | own b o =>
              cases o with
              | lst ys =>
                show (match (match ixN ys.length j with | some n => RS.nx (r2.set i (some (.own b (.lst (ys.set n d))))) | none => .stuck) with | .stuck => False | x => P x) = optQ (ixN ys.length j) _
                cases ixN ys.length j <;> rfl
              | dic kvs => rfl
            | _ => rfl
      | _ => simp
    | _ => simp
  have outer : ∀ (d : PyData) (r1 : DEnv) (z : Option (Option Sl)), (match (match z with
      | some (some (.own _ (.lst _))) => (opd fi r1).toS fun q => putK2 i d q.1 q.2
      | _ => .stuck) with
    | .stuck => False
    | x => P x) = optQ (ownL z) fun _ => okQ (fun q => match putK2 i d q.1 q.2 with
      | .stuck => False
      | x => P x) (xS P) (opd fi r1) := fun d r1 z => by
    cases z with
    | none => rfl
    | some z =>
      cases z with
      | none => rfl
      | some z =>
        cases z with
        | own b o =>
          cases o with
          | lst ys => exact wS_toS _ _
          | dic kvs => rfl
        | _ => rfl
  unfold wS dPut
  rw [wS_toS]
  unfold wZ
  congr 1
  funext q
  obtain ⟨d, r1⟩ := q
  show (match putK1 i fi d r1 with | .stuck => False | x => P x) = _
  unfold putK1
  refine (outer _ _ _).trans ?_
  dsimp only
  congr 1
  funext _
  unfold wO
  congr 1
  funext z
  exact inner d z.1 z.2
theorem wS_par (is : List Nat) (f : DP) : wS (dPar is f) r P = wP f r (fun ss r1 => is.length = ss.length ∧ P (.nx (setAllD is ss r1))) (xS P) := by
  unfold wS dPar
  rw [wS_toS]
  unfold wP
  congr 1
  funext p
  dsimp only
  by_cases h : is.length = p.1.length
  · rw [if_pos h, eq_true h, true_and]
  · rw [if_neg h, eq_false h, false_and]
/-! loops -/
def wI (it : DI) (r : DEnv) (Q : List PyData → DEnv → Prop) (E : EX) : Prop := okQ (fun p => Q p.1 p.2) E (it r)
theorem wI_any (f : DX) (Q : List PyData → DEnv → Prop) : wI (itA f) r Q E = wZ f r (fun d r1 => optQ (onA d) fun ds => Q ds r1) E := by
  unfold wI itA wZ
  rw [okQ_bind]
  congr 1
  funext p
  dsimp only
  cases onA p.1 <;> rfl
theorem wI_rng (g : List PyData → Option (List PyData)) (f : DF) (Q : List PyData → DEnv → Prop) : wI (itR g f) r Q E = wD f r (fun ds r1 => optQ (g ds) fun es => Q es r1) E := by
  unfold wI itR wD
  rw [okQ_bind]
  congr 1
  funext p
  dsimp only
  cases g p.1 <;> rfl
theorem wI_enum (f : DF) (Q : List PyData → DEnv → Prop) : wI (itEn onS f) r Q E = wD f r (fun ds r1 => ∃ d, ds = [d] ∧ optQ (onS d) fun es => Q (enumL 0 es) r1) E := by
  unfold wI itEn wD
  rw [okQ_bind]
  congr 1
  funext p
  obtain ⟨ds, r1⟩ := p
  cases ds with
  | nil => simp [okQ]
  | cons d ds =>
    cases ds with
    | nil =>
      show okQ _ E (match onS d with | some ds => _ | none => _) = _
      cases h : onS d with
      | none => simp [okQ, h, optQ]
      | some es => simp [okQ, h, optQ]
    | cons _ _ => simp [okQ]
@[irreducible] def wL (p : Pat) (b : DS) (ds : List PyData) (r : DEnv) (P : RS → Prop) : Prop := wS (forL p b ds) r P
theorem wS_for (it : DI) (p : Pat) (b : DS) : wS (dFor it p b) r P = wI it r (fun ds r1 => wL p b ds r1 P) (xS P) := by
  unfold wL wS dFor
  rw [wS_toS]
  rfl
def turnQ (P : RS → Prop) (N : DEnv → Prop) : RS → Prop
  | .nx r => N r
  | .ct r => N r
  | .bk r => P (.nx r)
  | .rt v r => P (.rt v r)
  | .exc c fs r => P (.exc c fs r)
  | .stuck => False
theorem wL_nil {p : Pat} {b : DS} : wL p b [] r P = P (.nx r) := by unfold wL; rfl
theorem wL_cons {p : Pat} {b : DS} {d : PyData} {ds : List PyData} : wL p b (d :: ds) r P = optQ (p.f d r) fun r1 => wS b r1 (turnQ P fun r2 => wL p b ds r2 P) := by
  unfold wL wS
  show (match (match p.f d r with | none => RS.stuck | some r1 => _) with | .stuck => False | x => P x) = _
  cases p.f d r with
  | none => rfl
  | some r1 =>
    show (match (match b r1 with | .nx r2 => forL p b ds r2 | .ct r2 => forL p b ds r2 | .bk r2 => RS.nx r2 | .rt dv r2 => .rt dv r2 | .exc c fs r2 => .exc c fs r2 | .stuck => .stuck) with | .stuck => False | x => P x) = (match b r1 with | .stuck => False | x => turnQ P (fun r2 => match forL p b ds r2 with | .stuck => False | x => P x) x)
    cases b r1 <;> rfl
/-- a loop by an invariant: I i holds ahead of the i-th turn -/
theorem for_inv {p : Pat} {b : DS} (I : Nat → DEnv → Prop) : ∀ {ds : List PyData} {r : DEnv} (k : Nat), I k r → (∀ r', I (k + ds.length) r' → P (.nx r')) → (∀ i d r', ds[i]? = some d → I (k + i) r' → optQ (p.f d r') fun r1 => wS b r1 (turnQ P (I (k + i + 1)))) → wL p b ds r P
  | [], r, k, h0, he, _ => by rw [wL_nil]; exact he r h0
  | d :: ds, r, k, h0, he, hs => by
    rw [wL_cons]
    have s0 := hs 0 d r rfl h0
    cases hp : p.f d r with
    | none => rw [hp] at s0; exact s0
    | some r1 =>
      rw [hp] at s0
      have s0 : wS b r1 (turnQ P (I (k + 1))) := s0
      show wS b r1 (turnQ P fun r2 => wL p b ds r2 P)
      have nx : ∀ r2, I (k + 1) r2 → wL p b ds r2 P := fun r2 h2 => for_inv I (k + 1) h2 (fun r' h => he r' (by rw [List.length_cons, show k + (ds.length + 1) = k + 1 + ds.length by omega]; exact h)) fun i d' r' hd h => by
        have := hs (i + 1) d' r' (by simpa using hd) (by rw [show k + (i + 1) = k + 1 + i by omega]; exact h)
        rw [show k + (i + 1) + 1 = k + 1 + i + 1 by omega] at this
        exact this
      unfold wS at s0 ⊢
      cases hb : b r1 with
      | nx r2 => rw [hb] at s0; exact nx r2 s0
      | ct r2 => rw [hb] at s0; exact nx r2 s0
      | bk r2 => rw [hb] at s0; exact s0
      | rt v r2 => rw [hb] at s0; exact s0
      | exc c fs r2 => rw [hb] at s0; exact s0
      | stuck => rw [hb] at s0; exact s0
/-! comprehensions -/
@[irreducible] def wM (p : Pat) (t : DT) (e : DX) (vs : List Nat) (ds : List PyData) (r : DEnv) (Q : List PyData → DEnv → Prop) : Prop := okQ (fun p => Q p.1 p.2) (fun _ _ _ => False) (lcL p t e vs ds r)
theorem wX_lc (it : DI) (p : Pat) (t : DT) (e : DX) (vs : List Nat) (Q : DV → DEnv → Prop) : wX (dLc it p t e vs) r Q E = wI it r (fun ds r1 => ownFree r1 vs = true ∧ ds.length ≤ sizeLine ∧ wM p t e vs ds (wipeD r1 vs) fun ys r2 => Q (.own (.lst ys)) (restoreD vs r1 r2)) E := by
  unfold wX dLc wI
  rw [okQ_bind]
  congr 1
  funext q
  unfold lcK
  dsimp only
  by_cases h : ownFree q.2 vs = true ∧ q.1.length ≤ sizeLine
  · rw [if_pos h, eq_true h.1, eq_true h.2, true_and, true_and]
    unfold wM
    cases lcL p t e vs q.1 (wipeD q.2 vs) <;> rfl
  · rw [if_neg h]
    refine propext ⟨fun z => z.elim, fun ⟨a, b, _⟩ => h ⟨a, b⟩⟩
theorem wM_nil {p : Pat} {t : DT} {e : DX} {vs : List Nat} {Q : List PyData → DEnv → Prop} : wM p t e vs [] r Q = Q [] r := by unfold wM; rfl
abbrev E0x : EX := fun _ _ _ => False
theorem wM_cons {p : Pat} {t : DT} {e : DX} {vs : List Nat} {d : PyData} {ds : List PyData} {Q : List PyData → DEnv → Prop} : wM p t e vs (d :: ds) r Q = optQ (p.f d r) fun r1 => wT t r1 (fun b r2 => if b = true then wZ e r2 (fun y r3 => wM p t e vs ds (wipeD r3 vs) fun ys r4 => Q (y :: ys) r4) E0x
    else wM p t e vs ds (wipeD r2 vs) Q) E0x := by
  unfold wM
  show okQ _ _ (match p.f d r with | none => .stuck | some r1 => _) = _
  cases p.f d r with
  | none => rfl
  | some r1 =>
    rw [optQ_some]
    dsimp only
    unfold wT
    cases t r1 with
    | stuck => rfl
    | exc c fs r' => rfl
    | ok z =>
      obtain ⟨b, r2⟩ := z
      cases b with
      | false => simp [okQ]
      | true =>
        rw [okQ_ok]
        dsimp only
        rw [if_pos rfl]
        unfold wZ
        cases frzE e r2 with
        | stuck => rfl
        | exc c fs r' => rfl
        | ok z =>
          obtain ⟨y, r3⟩ := z
          rw [okQ_ok]
          dsimp only
          cases lcL p t e vs ds (wipeD r3 vs) <;> rfl
/-- by an invariant over the items so far -/
theorem lc_inv {p : Pat} {t : DT} {e : DX} {vs : List Nat} (I : Nat → List PyData → DEnv → Prop) : ∀ {ds acc : List PyData} {r : DEnv} {Q : List PyData → DEnv → Prop} (k : Nat), I k acc r → (∀ ys r', I (k + ds.length) (acc ++ ys) r' → Q ys r') →
    (∀ i d acc r', ds[i]? = some d → I (k + i) acc r' → optQ (p.f d r') fun r1 => wT t r1 (fun b r2 => if b = true then wZ e r2 (fun y r3 => I (k + i + 1) (acc ++ [y]) (wipeD r3 vs)) E0x else I (k + i + 1) acc (wipeD r2 vs)) E0x) → wM p t e vs ds r Q
  | [], acc, r, Q, k, h0, he, _ => by rw [wM_nil]; exact he [] r (by rw [List.append_nil]; exact h0)
  | d :: ds, acc, r, Q, k, h0, he, hs => by
    rw [wM_cons]
    have s0 := hs 0 d acc r rfl h0
    have nx : ∀ acc' r2 (Q' : List PyData → DEnv → Prop), I (k + 1) acc' r2 → (∀ ys r', I (k + 1 + ds.length) (acc' ++ ys) r' → Q' ys r') → wM p t e vs ds r2 Q' := fun acc' r2 Q' h2 hq => lc_inv I (k + 1) h2 hq fun i d' a' r' hd h => by
      have := hs (i + 1) d' a' r' (by simpa using hd) (by rw [show k + (i + 1) = k + 1 + i by omega]; exact h)
      rw [show k + (i + 1) + 1 = k + 1 + i + 1 by omega] at this
      exact this
    have el : k + (d :: ds).length = k + 1 + ds.length := by rw [List.length_cons]; omega
    rw [el] at he
    cases hp : p.f d r with
    | none => rw [hp] at s0; exact s0
    | some r1 =>
      rw [hp] at s0
      have s0 : wT t r1 (fun b r2 => if b = true then wZ e r2 (fun y r3 => I (k + 1) (acc ++ [y]) (wipeD r3 vs)) E0x else I (k + 1) acc (wipeD r2 vs)) E0x := s0
      rw [optQ_some]
      unfold wT at s0 ⊢
      cases ht : t r1 with
      | stuck => rw [ht] at s0; exact s0
      | exc c fs r' => rw [ht] at s0; exact s0
      | ok z =>
        obtain ⟨b, r2⟩ := z
        rw [ht] at s0
        cases b with
        | false =>
          have s0 : I (k + 1) acc (wipeD r2 vs) := by simpa [okQ] using s0
          rw [okQ_ok]
          dsimp only
          rw [if_neg (by decide)]
          exact nx _ _ _ s0 fun ys r' h => he ys r' h
        | true =>
          have s0 : wZ e r2 (fun y r3 => I (k + 1) (acc ++ [y]) (wipeD r3 vs)) E0x := by simpa [okQ] using s0
          rw [okQ_ok]
          dsimp only
          rw [if_pos rfl]
          unfold wZ at s0 ⊢
          cases he' : frzE e r2 with
          | stuck => rw [he'] at s0; exact s0
          | exc c fs r' => rw [he'] at s0; exact s0
          | ok z =>
            obtain ⟨y, r3⟩ := z
            rw [he'] at s0
            exact nx _ _ _ s0 fun ys r' h => he (y :: ys) r' (by rw [List.append_assoc] at h; exact h)
end
end Dn
namespace Dn
open PySem PySem.Spec PyProof.Rows L2
section
variable {r : DEnv} {E : EX} {P : RS → Prop} {d e : PyData} {xs ys ds : List PyData} {i j : Int} {n k : Nat} {x y : Str} {b c : Bool} {o : Ob} {Q : DV → Prop} {Q2 : DV → DEnv → Prop} {f : Str} {ns : List Int}
/-! ### values where they stand -/
def varQ (z : Option (Option Sl)) (i : Nat) (r : DEnv) (Q : DV → DEnv → Prop) : Prop := match z with
  | some (some (.dat d)) => Q (.dat d) r
  | some (some (.own _ _)) => Q (.loc i) r
  | some (some (.fn f)) => Q (.fn f) r
  | some (some (.scr ns)) => Q (.scr ns) r
  | _ => False
theorem wX_v : wX (dVar n) r Q2 E = varQ r[n]? n r Q2 := wX_var n Q2
theorem varQ_dat : varQ (some (some (.dat d))) n r Q2 = Q2 (.dat d) r := nr rfl
theorem varQ_own : varQ (some (some (.own b o))) n r Q2 = Q2 (.loc n) r := nr rfl
theorem varQ_fn : varQ (some (some (.fn f))) n r Q2 = Q2 (.fn f) r := nr rfl
theorem varQ_scr : varQ (some (some (.scr ns))) n r Q2 = Q2 (.scr ns) r := nr rfl
theorem opQ_dat : opQ (.dat d) Q = Q (.dat d) := nr rfl
theorem opQ_loc : opQ (.loc n) Q = Q (.loc n) := nr rfl
theorem opQ_fn : opQ (.fn f) Q = Q (.fn f) := nr rfl
theorem opQ_scr : opQ (.scr ns) Q = Q (.scr ns) := nr rfl
theorem opQ_own : opQ (.own (.lst xs)) Q = Q (.dat (.list xs)) := nr rfl
theorem pk_dat : pk (.dat d) r = some d := nr rfl
theorem pk_loc : pk (.loc n) r = pkAt r[n]? := nr rfl
theorem pkAt_dat : pkAt (some (some (.dat d))) = some d := nr rfl
theorem pkAt_own : pkAt (some (some (.own b (.lst xs)))) = some (.list xs) := nr rfl
theorem frz_dat : frz (.dat d) r = some (d, r) := nr rfl
theorem frz_own : frz (.own (.lst xs)) r = some (.list xs, r) := nr rfl
theorem frz_loc : frz (.loc n) r = frzAt r n r[n]? := nr rfl
theorem frzAt_dat : frzAt r n (some (some (.dat d))) = some (d, r) := nr rfl
theorem frzAt_own : frzAt r n (some (some (.own true (.lst xs)))) = some (.list xs, r.set n (some (.dat (.list xs)))) := nr rfl
theorem keepV_T : keepV true (.own o) r = some (.own true o, r) := nr rfl
theorem keepV_F : keepV false (.own (.lst xs)) r = some (.dat (.list xs), r) := nr rfl
theorem keepV_d : keepV b (.dat d) r = some (.dat d, r) := by cases b <;> rfl
theorem keepV_l {P' : Sl × DEnv → Prop} : optQ (keepV b (.loc n) r) P' = optQ (frz (.loc n) r) fun p => P' (.dat p.1, p.2) := by
  have e : keepV b (.loc n) r = (match frz (.loc n) r with
    | some (d, r1) => some (.dat d, r1)
    | none => none) := by cases b <;> rfl
  rw [e]
  cases frz (.loc n) r <;> rfl
theorem setK_dat : setK n b (.dat d) r = some (r.set n (some (.dat d))) := nr rfl
theorem setK_T : setK n true (.own o) r = some (r.set n (some (.own true o))) := nr rfl
theorem setK_F : setK n false (.own (.lst xs)) r = some (r.set n (some (.dat (.list xs)))) := nr rfl
theorem setK_fn : setK n b (.fn f) r = some (r.set n (some (.fn f))) := nr rfl
theorem setK_loc {P' : DEnv → Prop} : optQ (setK n b (.loc k) r) P' = optQ (frz (.loc k) r) fun p => P' (p.2.set n (some (.dat p.1))) := by
  show optQ (match frz (.loc k) r with
    | some (d, r1) => some (r1.set n (some (.dat d)))
    | none => none) P' = _
  cases frz (.loc k) r <;> rfl
theorem ownL_own : ownL (some (some (.own b (.lst xs)))) = some (b, xs) := nr rfl
def updAt (r : DEnv) (j : Nat) (o : Ob) : Option (Option Sl) → DEnv
  | some (some (.own b _)) => r.set j (some (.own b o))
  | _ => r
theorem upd1_at : upd1 r n o = updAt r n o r[n]? := nr rfl
theorem updAt_own {o' : Ob} : updAt r n o (some (some (.own b o'))) = r.set n (some (.own b o)) := nr rfl
theorem updAt_dat : updAt r n o (some (some (.dat d))) = r := nr rfl
/-! ### targets -/
theorem pName_f : (pName n).f d r = some (r.set n (some (.dat d))) := nr rfl
theorem psNil_f : psNil.f [] r = some r := nr rfl
theorem psCons_f {p : Pat} {ps : Pats} {P' : DEnv → Prop} : optQ ((psCons p ps).f (d :: ds) r) P' = optQ (p.f d r) fun r1 => optQ (ps.f ds r1) P' := by
  show optQ (match p.f d r with
    | some r1 => ps.f ds r1
    | none => none) P' = _
  cases p.f d r <;> rfl
theorem psCons_n {p : Pat} {ps : Pats} : (psCons p ps).n = ps.n + 1 := nr rfl
theorem psNil_n : psNil.n = 0 := nr rfl
theorem pTup_f {ps : Pats} {P' : DEnv → Prop} : optQ ((pTup ps).f (.tuple ds) r) P' = (ds.length = ps.n ∧ optQ (ps.f ds r) P') := by
  show optQ (if ds.length = ps.n then ps.f ds r else none) P' = _
  by_cases h : ds.length = ps.n
  · rw [if_pos h, eq_true h, true_and]
  · rw [if_neg h, eq_false h, false_and]; rfl
/-! ### ends -/
theorem turnQ_nx {N : DEnv → Prop} : turnQ P N (.nx r) = N r := nr rfl
theorem turnQ_ct {N : DEnv → Prop} : turnQ P N (.ct r) = N r := nr rfl
theorem turnQ_bk {N : DEnv → Prop} : turnQ P N (.bk r) = P (.nx r) := nr rfl
theorem turnQ_rt {N : DEnv → Prop} {v : DV} : turnQ P N (.rt v r) = P (.rt v r) := nr rfl
theorem turnQ_exc {N : DEnv → Prop} : turnQ P N (.exc f xs r) = P (.exc f xs r) := nr rfl
def retL (P : RS → Prop) (i : Nat) (r : DEnv) : Option (Option Sl) → Prop
  | some (some (.own true o)) => P (.rt (.own o) (r.set i none))
  | some (some (.dat d)) => P (.rt (.dat d) r)
  | _ => False
theorem retQ_dat : retQ P (.dat d) r = P (.rt (.dat d) r) := nr rfl
theorem retQ_own : retQ P (.own o) r = P (.rt (.own o) r) := nr rfl
theorem retQ_loc : retQ P (.loc n) r = retL P n r r[n]? := by
  unfold retQ retL
  first
    | rfl
    | (dsimp only
       generalize r[n]? = z
       cases z with
       | none => rfl
       | some z =>
         cases z with
         | none => rfl
         | some z =>
           cases z with
           | own b o => cases b <;> rfl
           | _ => rfl)
theorem retL_own : retL P n r (some (some (.own true o))) = P (.rt (.own o) (r.set n none)) := nr rfl
theorem retL_dat : retL P n r (some (some (.dat d))) = P (.rt (.dat d) r) := nr rfl
variable {args : List Sl} {QF : DV → List Ob → Prop} {EF : Str → List PyData → List Ob → Prop} {v : DV}
theorem endQ_nx : endQ args QF EF (.nx r) = finQ (.dat .none) args r QF := nr rfl
theorem endQ_rt : endQ args QF EF (.rt v r) = finQ v args r QF := nr rfl
theorem endQ_exc : endQ args QF EF (.exc f xs r) = optQ (coll args r) fun os => EF f xs os := nr rfl
theorem finQ_dat : finQ (.dat d) args r QF = optQ (coll args r) fun os => QF (.dat d) os := nr rfl
theorem finQ_own : finQ (.own o) args r QF = optQ (coll args r) fun os => QF (.own o) os := nr rfl
theorem coll_nil {PO : List Ob → Prop} : optQ (coll [] r) PO = PO [] := nr rfl
theorem coll_own {PO : List Ob → Prop} {o' : Ob} {sls : List Sl} : optQ (coll (.own b o :: sls) (some (.own false o') :: r)) PO = optQ (coll sls r) fun os => PO (o' :: os) := by
  show optQ (match coll sls r with
    | some os => some (o' :: os)
    | none => none) PO = _
  cases coll sls r <;> rfl
theorem coll_dat {PO : List Ob → Prop} {z : Option Sl} {sls : List Sl} : optQ (coll (.dat d :: sls) (z :: r)) PO = optQ (coll sls r) PO := nr rfl
theorem coll_scr {PO : List Ob → Prop} {z : Option Sl} {sls : List Sl} : optQ (coll (.scr ns :: sls) (z :: r)) PO = optQ (coll sls r) PO := nr rfl
theorem coll_fn {PO : List Ob → Prop} {z : Option Sl} {sls : List Sl} : optQ (coll (.fn f :: sls) (z :: r)) PO = optQ (coll sls r) PO := nr rfl
/-! ### calls -/
variable {ms : List Bool} {dvs : List DV} {PA : List DV × DEnv → Prop}
theorem frzA_nil : optQ (frzA [] [] r) PA = PA ([], r) := nr rfl
theorem frzA_loc : optQ (frzA (false :: ms) (.loc n :: dvs) r) PA = optQ (frz (.loc n) r) fun p => optQ (frzA ms dvs p.2) fun q => PA (.dat p.1 :: q.1, q.2) := by
  show optQ (match frz (.loc n) r with
    | some (d, r1) => (match frzA ms dvs r1 with
      | some (q, r2) => some (.dat d :: q, r2)
      | none => none)
    | none => none) PA = _
  cases frz (.loc n) r with
  | none => rfl
  | some p =>
    show optQ (match frzA ms dvs p.2 with
      | some (q, r2) => some (.dat p.1 :: q, r2)
      | none => none) PA = optQ (frzA ms dvs p.2) _
    cases frzA ms dvs p.2 <;> rfl
theorem frzA_locT : optQ (frzA (true :: ms) (.loc n :: dvs) r) PA = optQ (frzA ms dvs r) fun q => PA (.loc n :: q.1, q.2) := by
  show optQ (match frzA ms dvs r with
    | some (q, r2) => some (.loc n :: q, r2)
    | none => none) PA = _
  cases frzA ms dvs r <;> rfl
theorem frzA_dat : optQ (frzA (b :: ms) (.dat d :: dvs) r) PA = optQ (frzA ms dvs r) fun q => PA (.dat d :: q.1, q.2) := by
  cases b
  all_goals
    show optQ (match frzA ms dvs r with
      | some (q, r2) => some (.dat d :: q, r2)
      | none => none) PA = _
    cases frzA ms dvs r <;> rfl
theorem frzA_scr : optQ (frzA (b :: ms) (.scr ns :: dvs) r) PA = optQ (frzA ms dvs r) fun q => PA (.scr ns :: q.1, q.2) := by
  cases b
  all_goals
    show optQ (match frzA ms dvs r with
      | some (q, r2) => some (.scr ns :: q, r2)
      | none => none) PA = _
    cases frzA ms dvs r <;> rfl
theorem frzA_fn : optQ (frzA (b :: ms) (.fn f :: dvs) r) PA = optQ (frzA ms dvs r) fun q => PA (.fn f :: q.1, q.2) := by
  cases b
  all_goals
    show optQ (match frzA ms dvs r with
      | some (q, r2) => some (.fn f :: q, r2)
      | none => none) PA = _
    cases frzA ms dvs r <;> rfl
variable {PC : List Sl × List Nat → Prop}
theorem colA_nil : optQ (colA [] r) PC = PC ([], []) := nr rfl
theorem colA_dat : optQ (colA (.dat d :: dvs) r) PC = optQ (colA dvs r) fun q => PC (.dat d :: q.1, q.2) := by
  show optQ (match colA dvs r with
    | some (q, js) => some (Sl.dat d :: q, js)
    | none => none) PC = _
  cases colA dvs r <;> rfl
theorem colA_fn : optQ (colA (.fn f :: dvs) r) PC = optQ (colA dvs r) fun q => PC (.fn f :: q.1, q.2) := by
  show optQ (match colA dvs r with
    | some (q, js) => some (Sl.fn f :: q, js)
    | none => none) PC = _
  cases colA dvs r <;> rfl
theorem colA_scr : optQ (colA (.scr ns :: dvs) r) PC = optQ (colA dvs r) fun q => PC (.scr ns :: q.1, q.2) := by
  show optQ (match colA dvs r with
    | some (q, js) => some (Sl.scr ns :: q, js)
    | none => none) PC = _
  cases colA dvs r <;> rfl
def ownOb : Option (Option Sl) → Option Ob
  | some (some (.own _ o)) => some o
  | _ => none
theorem ownOb_own : ownOb (some (some (.own b o))) = some o := nr rfl
theorem colA_loc : optQ (colA (.loc n :: dvs) r) PC = optQ (ownOb r[n]?) fun o => optQ (colA dvs r) fun q => PC (.own false o :: q.1, n :: q.2) := by
  show optQ (match r[n]? with
    | some (some (.own _ o)) => (match colA dvs r with
      | some (q, js) => some (Sl.own false o :: q, n :: js)
      | none => none)
    | _ => none) PC = _
  generalize r[n]? = z
  cases z with
  | none => rfl
  | some z =>
    cases z with
    | none => rfl
    | some z =>
      cases z with
      | own b o =>
        show optQ (match colA dvs r with
          | some (q, js) => some (Sl.own false o :: q, n :: js)
          | none => none) PC = optQ (colA dvs r) _
        cases colA dvs r <;> rfl
      | _ => rfl
variable {PD : List PyData → Prop}
theorem pks_nil : optQ (pks [] r) PD = PD [] := nr rfl
theorem pks_cons {vs : List DV} : optQ (pks (v :: vs) r) PD = optQ (pk v r) fun d => optQ (pks vs r) fun ds => PD (d :: ds) := by
  show optQ (match pk v r, pks vs r with
    | some d, some ds => some (d :: ds)
    | _, _ => none) PD = _
  cases pk v r with
  | none => rfl
  | some d => cases pks vs r <;> rfl
theorem slQ_scr {lo hi : Option Int} : slQ (.scr ns) lo hi r Q = Q (.own (.lst (cutL (ns.map PyData.int) lo hi))) := nr rfl
theorem slQ_dat {lo hi : Option Int} : slQ (.dat d) lo hi r Q = optQ (slD d lo hi) Q := nr rfl
theorem slQ_loc {lo hi : Option Int} : slQ (.loc n) lo hi r Q = optQ (pkAt r[n]?) fun d => optQ (slD d lo hi) Q := nr rfl
theorem slD_list {lo hi : Option Int} : slD (.list xs) lo hi = some (.own (.lst (cutL xs lo hi))) := nr rfl
theorem slD_tuple {lo hi : Option Int} : slD (.tuple xs) lo hi = some (.dat (.tuple (cutL xs lo hi))) := nr rfl
theorem slD_str {lo hi : Option Int} : slD (.str x) lo hi = if x.length ≤ sizeLine then some (.dat (.str (cutS x lo hi))) else none := nr rfl
/-! ### operations -/
theorem addD_int : addD (.int i) (.int j) = some (.dat (.int (i + j))) := nr rfl
theorem addD_str : addD (.str x) (.str y) = if x.length + y.length ≤ sizeLine then some (.dat (.str (x ++ y))) else none := nr rfl
theorem addD_list : addD (.list xs) (.list ys) = if xs.length + ys.length ≤ sizeLine then some (.own (.lst (xs ++ ys))) else none := nr rfl
theorem addD_tuple : addD (.tuple xs) (.tuple ys) = if xs.length + ys.length ≤ sizeLine then some (.dat (.tuple (xs ++ ys))) else none := nr rfl
theorem subD_int : subD (.int i) (.int j) = some (.dat (.int (i - j))) := nr rfl
theorem fdivD_int : fdivD (.int i) (.int j) = if CDivN i j then some (.dat (.int (i.fdiv j))) else none := nr rfl
theorem modD_int : modD (.int i) (.int j) = if j ≠ 0 then some (.dat (.int (i.fmod j))) else none := nr rfl
theorem powD_int : powD (.int i) (.int j) = if CPow i j then some (.dat (.int (i ^ j.toNat))) else none := nr rfl
theorem mulD_int : mulD (.int i) (.int j) = if CMul i j then some (.dat (.int (i * j))) else none := nr rfl
theorem mulD_list : mulD (.list xs) (.int i) = if -(2 ^ 63) ≤ i ∧ i < 2 ^ 63 ∧ xs.length * i.toNat ≤ sizeLine then some (.own (.lst (List.replicate i.toNat xs).flatten)) else none := nr rfl
theorem eqD_if : eqD d e = if (leaf d = true ∧ leaf e = true) ∨ (SeqAt.shaped d = true ∧ SeqAt.shaped e = true) then some (.dat (.bool (PyData.eqv d e))) else none := nr rfl
theorem neD_if : neD d e = if (leaf d = true ∧ leaf e = true) ∨ (SeqAt.shaped d = true ∧ SeqAt.shaped e = true) then some (.dat (.bool (!PyData.eqv d e))) else none := nr rfl
theorem ltD_int : ltD (.int i) (.int j) = some (.dat (.bool (decide (i < j)))) := nr rfl
theorem leD_int : leD (.int i) (.int j) = some (.dat (.bool (decide (i ≤ j)))) := nr rfl
theorem gtD_int : gtD (.int i) (.int j) = some (.dat (.bool (decide (j < i)))) := nr rfl
theorem geD_int : geD (.int i) (.int j) = some (.dat (.bool (decide (j ≤ i)))) := nr rfl
theorem inL_list : inL b d (.list ds) = if (leaf d = true ∧ leafs ds = true) ∨ (SeqAt.shaped d = true ∧ SeqAt.shaped (.list ds) = true) then some (.dat (.bool (if b then !(ds.any fun z => PyData.eqv z d) else ds.any fun z => PyData.eqv z d))) else none := by cases d <;> rfl
theorem inL_tuple : inL b d (.tuple ds) = if (leaf d = true ∧ leafs ds = true) ∨ (SeqAt.shaped d = true ∧ SeqAt.shaped (.tuple ds) = true) then some (.dat (.bool (if b then !(ds.any fun z => PyData.eqv z d) else ds.any fun z => PyData.eqv z d))) else none := by cases d <;> rfl
theorem isN_none : isN b .none .none = some (.dat (.bool (!b))) := nr rfl
theorem isN_int : isN b (.int i) .none = some (.dat (.bool b)) := nr rfl
theorem isN_str : isN b (.str x) .none = some (.dat (.bool b)) := nr rfl
theorem isN_bool : isN b (.bool c) .none = some (.dat (.bool b)) := nr rfl
theorem isN_tuple : isN b (.tuple ds) .none = some (.dat (.bool b)) := nr rfl
theorem isN_list : isN b (.list ds) .none = some (.dat (.bool b)) := nr rfl
theorem op1_1 {g : PyData → Option DV} : op1 g [d] = g d := nr rfl
theorem op2_2 {g : Op2} : op2 g [d, e] = g d e := nr rfl
theorem lenD_list : lenD (.list ds) = some (.dat (.int ds.length)) := nr rfl
theorem lenD_tuple : lenD (.tuple ds) = some (.dat (.int ds.length)) := nr rfl
theorem lenD_str : lenD (.str x) = if x.length ≤ sizeLine then some (.dat (.int x.length)) else none := nr rfl
theorem tupleD_list : tupleD (.list ds) = some (.dat (.tuple ds)) := nr rfl
theorem tupleD_tuple : tupleD (.tuple ds) = some (.dat (.tuple ds)) := nr rfl
theorem listD_list : listD (.list ds) = some (.own (.lst ds)) := nr rfl
theorem listD_tuple : listD (.tuple ds) = some (.own (.lst ds)) := nr rfl
theorem intD_int : Dn.intD (.int i) = some (.dat (.int i)) := nr rfl
theorem intD_bool : Dn.intD (.bool b) = some (.dat (.int (if b then 1 else 0))) := nr rfl
theorem min2D_int : min2D (.int i) (.int j) = some (.dat (.int (if j < i then j else i))) := nr rfl
theorem max2D_int : max2D (.int i) (.int j) = some (.dat (.int (if j > i then j else i))) := nr rfl
theorem sortD_list : sortD (.list ds) = if sortOk ds = true then some (.own (.lst (sortedL ds))) else none := nr rfl
theorem reprD_if : reprD d = if d.showable = true ∧ SeqAt.shaped d = true ∧ d.shown.length ≤ sizeLine then some (.dat (.str d.shown)) else none := nr rfl
theorem onA_list : onA (.list ds) = some ds := nr rfl
theorem onA_tuple : onA (.tuple ds) = some ds := nr rfl
theorem onA_str : onA (.str x) = some (signs x) := nr rfl
theorem onS_list : onS (.list ds) = some ds := nr rfl
theorem onS_tuple : onS (.tuple ds) = some ds := nr rfl
theorem rng1_int : rng1 [.int j] = if big62 j = true then some (rangeL 0 j.toNat) else none := nr rfl
theorem rng2_int : rng2 [.int i, .int j] = if big62 i = true ∧ big62 j = true then some (rangeL i (j - i).toNat) else none := nr rfl
theorem ixD_list : optQ (ixD (.list ds) (.int i)) Q = optQ (atI ds i) fun d => Q (.dat d) := by
  show optQ (match atI ds i with | some d => some (DV.dat d) | none => none) Q = _
  cases atI ds i <;> rfl
theorem ixD_tuple : optQ (ixD (.tuple ds) (.int i)) Q = optQ (atI ds i) fun d => Q (.dat d) := by
  show optQ (match atI ds i with | some d => some (DV.dat d) | none => none) Q = _
  cases atI ds i <;> rfl
theorem appendO_1 : appendO ys [d] = if ys.length < sizeLine then some (.none, ys ++ [d]) else none := nr rfl
theorem popO_1 {PP : PyData × List PyData → Prop} : optQ (popO ys [.int i]) PP = optQ (ixN ys.length i) fun k => optQ ys[k]? fun y => PP (y, ys.eraseIdx k) := by
  show optQ (match ixN ys.length i with
    | some k => (match ys[k]? with
      | some y => some (y, ys.eraseIdx k)
      | none => none)
    | none => none) PP = _
  cases ixN ys.length i with
  | none => rfl
  | some k =>
    show optQ (match ys[k]? with
      | some y => some (y, ys.eraseIdx k)
      | none => none) PP = optQ ys[k]? _
    cases ys[k]? <;> rfl
end
/-! ### places in a list -/
theorem ixN_nat (n k : Nat) : ixN n (k : Int) = if k < n then some k else none := by
  unfold ixN
  by_cases h : k < n
  · simp [h]
  · simp [h]
theorem ixN_lit (n k : Nat) : ixN n (no_index (OfNat.ofNat k : Int)) = if k < n then some k else none := ixN_nat n k
theorem atI_nat {A : Type} (xs : List A) (k : Nat) : atI xs (k : Int) = xs[k]? := by
  unfold atI
  rw [ixN_nat]
  by_cases h : k < xs.length
  · rw [if_pos h]; rfl
  · rw [if_neg h]
    exact (List.getElem?_eq_none (by omega)).symm
theorem atI_lit {A : Type} (xs : List A) (k : Nat) : atI xs (no_index (OfNat.ofNat k : Int)) = xs[k]? := atI_nat xs k
theorem ixN_of {n : Nat} {i : Int} (h0 : 0 ≤ i) (h1 : i < n) : ixN n i = some i.toNat := by
  obtain ⟨k, rfl⟩ := Int.eq_ofNat_of_zero_le h0
  rw [ixN_nat, if_pos (by omega)]
  rfl
theorem atI_of {A : Type} {xs : List A} {i : Int} (h0 : 0 ≤ i) : atI xs i = xs[i.toNat]? := by
  obtain ⟨k, rfl⟩ := Int.eq_ofNat_of_zero_le h0
  rw [atI_nat]
  rfl
/-! ### plain equations of the symbolic run -/
section
variable {A B : Type} (a b : A) (l m : List A) (n : Nat)
theorem zz_g0 : (a :: l)[0]? = some a := nr rfl
theorem zz_gs : (a :: l)[n + 1]? = l[n]? := nr List.getElem?_cons_succ
theorem zz_gn : ([] : List A)[n]? = none := nr rfl
theorem zz_s0 : (a :: l).set 0 b = b :: l := nr rfl
theorem zz_ss : (a :: l).set (n + 1) b = a :: l.set n b := nr rfl
theorem zz_lc : (a :: l).length = l.length + 1 := nr rfl
theorem zz_ln : ([] : List A).length = 0 := nr rfl
theorem zz_lm (f : A → B) : (l.map f).length = l.length := nr (List.length_map _)
theorem zz_ca : (a :: l) ++ m = a :: (l ++ m) := nr rfl
theorem zz_na : [] ++ l = l := nr rfl
theorem zz_ac (p : A → Bool) : (a :: l).all p = (p a && l.all p) := nr rfl
theorem zz_an (p : A → Bool) : ([] : List A).all p = true := nr rfl
theorem zz_gd : (some a).getD b = a := nr rfl
theorem zz_gdn : (none : Option A).getD b = b := nr rfl
theorem zz_fc (f : A → Option B) : (a :: l).filterMap f = (match f a with | none => l.filterMap f | some c => c :: l.filterMap f) := nr (List.filterMap_cons ..)
theorem zz_fn (f : A → Option B) : ([] : List A).filterMap f = [] := nr rfl
theorem zz_dn : ([] : List A).Nodup = True := propext ⟨fun _ => trivial, fun _ => List.nodup_nil⟩
theorem zz_dc : (a :: l).Nodup = (a ∉ l ∧ l.Nodup) := propext List.nodup_cons
theorem zz_mn : (a ∈ ([] : List A)) = False := propext ⟨fun h => (List.not_mem_nil h), False.elim⟩
end
section
variable {p : Prop} {A : Sort _}
theorem zz_ed (d e : PyData) : (DV.dat d = DV.dat e) = (d = e) := propext ⟨fun h => by cases h; rfl, fun h => by rw [h]⟩
theorem zz_eb (d e : Bool) : (PyData.bool d = PyData.bool e) = (d = e) := propext ⟨fun h => by cases h; rfl, fun h => by rw [h]⟩
theorem zz_ei (d e : Int) : (PyData.int d = PyData.int e) = (d = e) := propext ⟨fun h => by cases h; rfl, fun h => by rw [h]⟩
theorem zz_es (d e : Str) : (PyData.str d = PyData.str e) = (d = e) := propext ⟨fun h => by cases h; rfl, fun h => by rw [h]⟩
theorem zz_et (d e : List PyData) : (PyData.tuple d = PyData.tuple e) = (d = e) := propext ⟨fun h => by cases h; rfl, fun h => by rw [h]⟩
theorem zz_el (d e : List PyData) : (PyData.list d = PyData.list e) = (d = e) := propext ⟨fun h => by cases h; rfl, fun h => by rw [h]⟩
theorem zz_x1 (a : A) (q : A → Prop) : (∃ x, a = x ∧ q x) = q a := propext ⟨fun ⟨_, e, h⟩ => e ▸ h, fun h => ⟨a, rfl, h⟩⟩
theorem zz_x2 (a : A) (q : A → Prop) : (∃ x, x = a ∧ q x) = q a := propext ⟨fun ⟨_, e, h⟩ => e ▸ h, fun h => ⟨a, rfl, h⟩⟩
theorem zz_at : (p ∧ True) = p := propext ⟨And.left, fun h => ⟨h, trivial⟩⟩
theorem zz_ta : (True ∧ p) = p := propext ⟨And.right, fun h => ⟨trivial, h⟩⟩
theorem zz_bt (b : Bool) : (b && true) = b := Bool.and_true b
theorem zz_tb (b : Bool) : (true && b) = b := nr rfl
theorem zz_it (a b : A) : (if True then a else b) = a := if_pos trivial
theorem zz_if (a b : A) : (if False then a else b) = b := if_neg id
theorem zz_ft : (false = true) = False := propext ⟨fun h => Bool.noConfusion h, False.elim⟩
theorem zz_tt : (true = true) = True := propext ⟨fun _ => trivial, fun _ => rfl⟩
theorem zz_nt : (!true) = false := nr rfl
theorem zz_nf : (!false) = true := nr rfl
theorem zz_nff : (¬ False) = True := propext ⟨fun _ => trivial, fun _ h => h⟩
theorem zz_is (c : Prop) [Decidable c] (a : A) : (if c then a else a) = a := ite_self a
theorem zz_to : (True ∨ p) = True := propext ⟨fun _ => trivial, .inl⟩
theorem zz_ot : (p ∨ True) = True := propext ⟨fun _ => trivial, .inr⟩
theorem zz_fo : (False ∨ p) = p := propext ⟨fun h => h.elim False.elim id, .inr⟩
theorem zz_fa : (False ∧ p) = False := propext ⟨fun h => h.1, False.elim⟩
theorem zz_af : (p ∧ False) = False := propext ⟨fun h => h.2, False.elim⟩
theorem leaf_n : leaf .none = true := nr rfl
theorem leaf_b (b : Bool) : leaf (.bool b) = true := nr rfl
theorem leaf_i (i : Int) : leaf (.int i) = true := nr rfl
theorem leaf_s (x : Str) : leaf (.str x) = true := nr rfl
theorem leaf_t (l : List PyData) : leaf (.tuple l) = false := nr rfl
theorem leaf_l (l : List PyData) : leaf (.list l) = false := nr rfl
theorem leafs_n : leafs [] = true := nr rfl
theorem leafs_c (d : PyData) (l : List PyData) : leafs (d :: l) = (leaf d && leafs l) := nr rfl
theorem leafs_s (l : List Str) : leafs (l.map .str) = true := by unfold leafs; rw [List.all_map]; exact List.all_eq_true.mpr fun _ _ => rfl
theorem leafs_i (l : List Int) : leafs (l.map .int) = true := by unfold leafs; rw [List.all_map]; exact List.all_eq_true.mpr fun _ _ => rfl
theorem shaped_n : SeqAt.shaped .none = true := nr rfl
theorem shaped_b (b : Bool) : SeqAt.shaped (.bool b) = true := nr rfl
theorem shaped_i (i : Int) : SeqAt.shaped (.int i) = true := nr rfl
theorem zz_rf (a : A) : (a = a) = True := propext ⟨fun _ => trivial, fun _ => rfl⟩
end
end Dn
namespace Dn
open PySem PySem.Spec PyProof.Rows L2
/-! ### data that can be compared -/
structure Shp (n : Nat) (d : PyData) : Prop where
  l : d.canLay0 = true
  d : d.depth ≤ n
theorem Shp.ok {n : Nat} {d : PyData} (h : Shp n d) (hn : n ≤ 64 := by decide) : SeqAt.shaped d = true := by
  unfold SeqAt.shaped
  rw [h.l, Bool.true_and]
  exact decide_eq_true (Nat.le_trans h.d hn)
theorem Shp.up {n m : Nat} {d : PyData} (h : Shp n d) (hn : n ≤ m := by decide) : Shp m d := ⟨h.l, Nat.le_trans h.d hn⟩
theorem shp_all {n : Nat} {ds : List PyData} (h : ∀ d, d ∈ ds → Shp n d) : PyData.canLayAll0 ds = true ∧ PyData.depthAll ds ≤ n := by
  induction ds with
  | nil => exact ⟨rfl, Nat.zero_le _⟩
  | cons d ds ih =>
    obtain ⟨h1, h2⟩ := ih fun e he => h e (List.mem_cons_of_mem _ he)
    have h0 := h d List.mem_cons_self
    unfold PyData.canLayAll0 PyData.depthAll
    rw [h0.l, h1]
    exact ⟨rfl, Nat.max_le.mpr ⟨h0.d, h2⟩⟩
theorem shp_list {n : Nat} {ds : List PyData} (h : ∀ d, d ∈ ds → Shp n d) : Shp (n + 1) (.list ds) := by
  obtain ⟨h1, h2⟩ := shp_all h
  exact ⟨by unfold PyData.canLay0; exact h1, by unfold PyData.depth; omega⟩
theorem shp_tuple {n : Nat} {ds : List PyData} (h : ∀ d, d ∈ ds → Shp n d) : Shp (n + 1) (.tuple ds) := by
  obtain ⟨h1, h2⟩ := shp_all h
  exact ⟨by unfold PyData.canLay0; exact h1, by unfold PyData.depth; omega⟩
theorem shp_int {n : Nat} (i : Int) : Shp n (.int i) := ⟨rfl, Nat.zero_le _⟩
theorem shp_none {n : Nat} : Shp n .none := ⟨rfl, Nat.zero_le _⟩
theorem shp_bool {n : Nat} (b : Bool) : Shp n (.bool b) := ⟨rfl, Nat.zero_le _⟩
theorem shp_str {n : Nat} {x : Str} (h : PyData.strOk x = true) : Shp n (.str x) := ⟨h, Nat.zero_le _⟩
theorem mem_map_int {ns : List Int} {d : PyData} (h : d ∈ ns.map PyData.int) : ∃ i, i ∈ ns ∧ d = .int i := by
  obtain ⟨i, hi, rfl⟩ := List.mem_map.mp h
  exact ⟨i, hi, rfl⟩
theorem shp_ints {n : Nat} (ns : List Int) : Shp (n + 1) (.list (ns.map PyData.int)) := shp_list fun d hd => by
  obtain ⟨i, _, rfl⟩ := mem_map_int hd
  exact shp_int i
theorem shp_intsT {n : Nat} (ns : List Int) : Shp (n + 1) (.tuple (ns.map PyData.int)) := shp_tuple fun d hd => by
  obtain ⟨i, _, rfl⟩ := mem_map_int hd
  exact shp_int i
theorem shp_strs {n : Nat} {xs : List Str} (h : ∀ x, x ∈ xs → PyData.strOk x = true) : Shp (n + 1) (.list (xs.map PyData.str)) := shp_list fun d hd => by
  obtain ⟨x, hx, rfl⟩ := List.mem_map.mp hd
  exact shp_str (h x hx)
theorem shp_strsT {n : Nat} {xs : List Str} (h : ∀ x, x ∈ xs → PyData.strOk x = true) : Shp (n + 1) (.tuple (xs.map PyData.str)) := shp_tuple fun d hd => by
  obtain ⟨x, hx, rfl⟩ := List.mem_map.mp hd
  exact shp_str (h x hx)
theorem eqv_nil {xs : List PyData} : PyData.eqv (.list xs) (.list []) = xs.isEmpty := by
  cases xs <;> simp [PyData.eqv, PyData.eqvAll]
theorem eqv_ss {x y : Str} : PyData.eqv (.str x) (.str y) = (x == y) := by simp [PyData.eqv]
theorem eqv_ii {i j : Int} : PyData.eqv (.int i) (.int j) = (i == j) := by simp [PyData.eqv]
theorem wI_enum1 {r : DEnv} {E : EX} (f : DX) (Q : List PyData → DEnv → Prop) : wI (itEn onS (dfCons f dfNil)) r Q E = wZ f r (fun d r1 => optQ (onS d) fun es => Q (enumL 0 es) r1) E := by
  rw [wI_enum, wD_cons]
  congr 1
  funext d r1
  rw [wD_nil]
  refine propext ⟨fun ⟨d', e, z⟩ => ?_, fun z => ⟨d, rfl, z⟩⟩
  cases e
  exact z
/-! ### monotone -/
theorem okQ.imp {A : Type} {Q Q' : A → Prop} {E : EX} {x : R A} (h : okQ Q E x) (q : ∀ a, Q a → Q' a) : okQ Q' E x := by
  cases x with
  | ok a => exact q a h
  | exc c fs r => exact h
  | stuck => exact h
theorem wT.imp {f : DT} {r : DEnv} {Q Q' : Bool → DEnv → Prop} {E : EX} (h : wT f r Q E) (q : ∀ a b, Q a b → Q' a b) : wT f r Q' E := okQ.imp h fun p z => q p.1 p.2 z
theorem wZ.imp {f : DX} {r : DEnv} {Q Q' : PyData → DEnv → Prop} {E : EX} (h : wZ f r Q E) (q : ∀ a b, Q a b → Q' a b) : wZ f r Q' E := okQ.imp h fun p z => q p.1 p.2 z
theorem wX.imp {f : DX} {r : DEnv} {Q Q' : DV → DEnv → Prop} {E : EX} (h : wX f r Q E) (q : ∀ a b, Q a b → Q' a b) : wX f r Q' E := okQ.imp h fun p z => q p.1 p.2 z
theorem wS.imp {f : DS} {r : DEnv} {P P' : RS → Prop} (h : wS f r P) (q : ∀ x, P x → P' x) : wS f r P' := by
  unfold wS at h ⊢
  cases hf : f r with
  | stuck => rw [hf] at h; exact h
  | nx r1 => rw [hf] at h; exact q _ h
  | bk r1 => rw [hf] at h; exact q _ h
  | ct r1 => rw [hf] at h; exact q _ h
  | rt v r1 => rw [hf] at h; exact q _ h
  | exc c fs r1 => rw [hf] at h; exact q _ h
theorem optQ.imp {A : Type} {o : Option A} {P P' : A → Prop} (h : optQ o P) (q : ∀ a, P a → P' a) : optQ o P' := by
  cases o with
  | none => exact h
  | some a => exact q a h
/-! ### defs that compute a value -/
theorem wF_eq {φ : Fn} {args : List Sl} {dv : DV} {os : List Ob} {Q : DV → List Ob → Prop} {E : Str → List PyData → List Ob → Prop} (h : φ args = .ok dv os) : wF φ args Q E = Q dv os := by
  unfold wF
  rw [h]
theorem wF_get {φ : Fn} {args : List Sl} {dv : DV} {os : List Ob} (h : wF φ args (fun a b => a = dv ∧ b = os) fun _ _ _ => False) : φ args = .ok dv os := by
  unfold wF at h
  cases hf : φ args with
  | ok a b => rw [hf] at h; rw [h.1, h.2]
  | exc c fs b => rw [hf] at h; exact h.elim
  | stuck => rw [hf] at h; exact h.elim
/-! ### loops over known items -/
section
variable {A : Type}
/-- I holds of the items gone through -/
theorem for_map {p : Pat} {b : DS} {g : A → PyData} {P : RS → Prop} (I : List A → DEnv → Prop) (xs : List A) {r : DEnv} (h0 : I [] r) (he : ∀ r', I xs r' → P (.nx r'))
    (hs : ∀ pre x post r', xs = pre ++ x :: post → I pre r' → optQ (p.f (g x) r') fun r1 => wS b r1 (turnQ P (I (pre ++ [x])))) : wL p b (xs.map g) r P := by
  have key : ∀ (post pre : List A) (r : DEnv), xs = pre ++ post → I pre r → wL p b (post.map g) r P := by
    intro post
    induction post with
    | nil =>
      intro pre r e h
      rw [List.append_nil] at e
      rw [List.map_nil, wL_nil]
      exact he r (by rw [e]; exact h)
    | cons x post ih =>
      intro pre r e h
      rw [List.map_cons, wL_cons]
      refine (hs pre x post r e h).imp fun r1 z => z.imp fun y hy => ?_
      cases y with
      | nx r2 => exact ih (pre ++ [x]) r2 (by rw [e, List.append_assoc]; rfl) hy
      | ct r2 => exact ih (pre ++ [x]) r2 (by rw [e, List.append_assoc]; rfl) hy
      | bk r2 => exact hy
      | rt v r2 => exact hy
      | exc c fs r2 => exact hy
      | stuck => exact hy
  exact key xs [] r rfl h0
/-- a comprehension whose items are a plain function of what is walked -/
theorem lc_map {p : Pat} {t : DT} {e : DX} {vs : List Nat} {g : A → PyData} {r : DEnv} {Q : List PyData → DEnv → Prop} (xs : List A) (F : A → Bool) (G : A → PyData)
    (h : ∀ x, x ∈ xs → optQ (p.f (g x) r) fun r1 => wT t r1 (fun b r2 => b = F x ∧ if b = true then wZ e r2 (fun y r3 => y = G x ∧ wipeD r3 vs = r) E0x else wipeD r2 vs = r) E0x) (hq : Q ((xs.filter F).map G) r) : wM p t e vs (xs.map g) r Q := by
  induction xs generalizing Q with
  | nil => rw [List.map_nil, wM_nil]; exact hq
  | cons x xs ih =>
    rw [List.map_cons, wM_cons]
    refine (h x List.mem_cons_self).imp fun r1 z => z.imp fun b r2 hb => ?_
    obtain ⟨e1, e2⟩ := hb
    by_cases hbt : b = true
    · rw [if_pos hbt] at e2 ⊢
      refine e2.imp fun y r3 ⟨e3, e4⟩ => ?_
      rw [e4, e3]
      have ef : F x = true := by rw [← e1]; exact hbt
      rw [List.filter_cons_of_pos ef, List.map_cons] at hq
      exact ih (fun y hy => h y (List.mem_cons_of_mem _ hy)) hq
    · rw [if_neg hbt] at e2 ⊢
      rw [e2]
      have ef : ¬ F x = true := by rw [← e1]; exact hbt
      rw [List.filter_cons_of_neg ef] at hq
      exact ih (fun y hy => h y (List.mem_cons_of_mem _ hy)) hq
/-- by an invariant over the items gone through -/
theorem lc_for {p : Pat} {t : DT} {e : DX} {vs : List Nat} {g : A → PyData} {r : DEnv} {Q : List PyData → DEnv → Prop} (I : List A → List PyData → DEnv → Prop) (xs : List A) (h0 : I [] [] r) (he : ∀ ys r', I xs ys r' → Q ys r')
    (hs : ∀ pre x post acc r', xs = pre ++ x :: post → I pre acc r' → optQ (p.f (g x) r') fun r1 => wT t r1 (fun b r2 => if b = true then wZ e r2 (fun y r3 => I (pre ++ [x]) (acc ++ [y]) (wipeD r3 vs)) E0x else I (pre ++ [x]) acc (wipeD r2 vs)) E0x) : wM p t e vs (xs.map g) r Q := by
  have key : ∀ (post pre : List A) (acc : List PyData) (r : DEnv) (Q : List PyData → DEnv → Prop), xs = pre ++ post → I pre acc r → (∀ ys r', I xs (acc ++ ys) r' → Q ys r') → wM p t e vs (post.map g) r Q := by
    intro post
    induction post with
    | nil =>
      intro pre acc r Q e h hq
      rw [List.append_nil] at e
      rw [List.map_nil, wM_nil]
      exact hq [] r (by rw [e, List.append_nil]; exact h)
    | cons x post ih =>
      intro pre acc r Q e h hq
      rw [List.map_cons, wM_cons]
      refine (hs pre x post acc r e h).imp fun r1 z => z.imp fun b r2 hb => ?_
      have e' : xs = (pre ++ [x]) ++ post := by rw [e, List.append_assoc]; rfl
      by_cases hbt : b = true
      · rw [if_pos hbt] at hb ⊢
        exact hb.imp fun y r3 hy => ih (pre ++ [x]) (acc ++ [y]) _ _ e' hy fun ys r' hi => hq (y :: ys) r' (by rw [List.append_assoc] at hi; exact hi)
      · rw [if_neg hbt] at hb ⊢
        exact ih (pre ++ [x]) acc _ _ e' hb hq
  exact key xs [] [] r Q rfl h0 fun ys r' h => he ys r' h
end
/-! ### sorted texts -/
theorem sortOk_strs (xs : List Str) : sortOk (xs.map PyData.str) = true := by
  unfold sortOk
  rw [Bool.and_eq_true, Bool.and_eq_true]
  refine ⟨⟨?_, ?_⟩, ?_⟩
  · refine List.all_eq_true.mpr fun d hd => List.all_eq_true.mpr fun e he => ?_
    obtain ⟨x, _, rfl⟩ := List.mem_map.mp hd
    obtain ⟨y, _, rfl⟩ := List.mem_map.mp he
    rfl
  · unfold sortKind
    rw [Bool.or_eq_true]
    refine .inr (List.all_eq_true.mpr fun d hd => ?_)
    obtain ⟨x, _, rfl⟩ := List.mem_map.mp hd
    rfl
  · refine List.all_eq_true.mpr fun d hd => ?_
    obtain ⟨x, _, rfl⟩ := List.mem_map.mp hd
    rfl
/-- a list of texts, sorted, is a list of the same texts -/
theorem sorted_strs (xs : List Str) : ∃ ys : List Str, sortedL (xs.map PyData.str) = ys.map PyData.str ∧ ys.Perm xs := by
  have p : (sortedL (xs.map PyData.str)).Perm (xs.map PyData.str) := List.mergeSort_perm _ _
  have h : ∀ l : List PyData, (∀ d, d ∈ l → ∃ x, d = .str x) → ∃ ys : List Str, l = ys.map PyData.str := by
    intro l
    induction l with
    | nil => exact fun _ => ⟨[], rfl⟩
    | cons d l ih =>
      intro hl
      obtain ⟨x, rfl⟩ := hl d List.mem_cons_self
      obtain ⟨ys, rfl⟩ := ih fun e he => hl e (List.mem_cons_of_mem _ he)
      exact ⟨x :: ys, rfl⟩
  obtain ⟨ys, e⟩ := h _ fun d hd => by
    obtain ⟨x, _, rfl⟩ := List.mem_map.mp (p.mem_iff.mp hd)
    exact ⟨x, rfl⟩
  refine ⟨ys, e, ?_⟩
  rw [e] at p
  have q := p.map fun d => match d with
    | .str x => x
    | _ => ("" : Str)
  have id' : ∀ l : List Str, ((l.map PyData.str).map fun d => match d with
    | .str x => x
    | _ => ("" : Str)) = l := fun l => by
    rw [List.map_map]
    exact List.map_id' l
  rw [id', id'] at q
  exact q
end Dn
namespace Dn
open PySem PySem.Spec PyProof.Rows L2
/-! ### sets of ints and texts that can be walked -/
def keyW (e : Int × Value) : Key := match e.2 with
  | .int i _ => .inl i
  | .str x _ => .inr x
  | _ => .inl 0
def GdW (P : Program) (w : World) (e : Int × Value) : Prop := (mixKind P w).is (keyW e) e.2 = true ∧ e.1 = (mixKind P w).hash (keyW e) ∧ e.2.scannable = true
theorem keyW_of {P : Program} {w : World} {k : Key} {e : Int × Value} (h : (mixKind P w).is k e.2 = true) : keyW e = k := by
  unfold keyW
  rcases keyIs_shape (show keyIs k e.2 = true from h) with ⟨i, t, rfl, e2⟩ | ⟨x, t, rfl, e2⟩
  · rw [e2]
  · rw [e2]
def SetW (P : Program) (w : World) (h : Heap) (a : Addr) (ks : List Key) : Prop :=
  ∃ o es ep t, h.get? a = some o ∧ o.ExactSet ∧ o.data = .set es ep t ∧ (∀ e, e ∈ es.toList → GdW P w e) ∧ (es.toList.map keyW).Perm ks ∧ ks.Nodup ∧
    es.size < scanBound ∧ t.fits es.size = true ∧ Ris t.place.toList ∧ (w.params.followText "set-order" = true ∨ t.led = true)
section
variable {P : Program} {w : World} {A : Around} {E : Value → Shared → Prop} {s : Shared} {h h' : Heap} {a : Addr} {ks : List Key}
theorem SetW.at (x : SetW P w h a ks) (q : ∀ o, h.get? a = some o → h'.get? a = some o) : SetW P w h' a ks :=
  let ⟨o, es, ep, t, ho, z⟩ := x
  ⟨o, es, ep, t, q o ho, z⟩
theorem gdW_elems {l : List (Int × Value)} (g : ∀ e, e ∈ l → GdW P w e) : ElemsOf (mixKind P w) l := fun e he => ⟨⟨keyW e, (g e he).1, (g e he).2.1⟩, (g e he).2.2⟩
def inK (ks : List Key) (k : Key) : Bool := ks.any fun j => decide (j = k)
theorem inK_iff {k : Key} : inK ks k = true ↔ k ∈ ks := by
  unfold inK
  rw [List.any_eq_true]
  exact ⟨fun ⟨x, hx, e⟩ => of_decide_eq_true e ▸ hx, fun h => ⟨k, h, decide_eq_true rfl⟩⟩
def plusK (ks : List Key) (k : Key) : List Key := if inK ks k = true then ks else ks ++ [k]
theorem plusK_nd {k : Key} (h : ks.Nodup) : (plusK ks k).Nodup := by
  unfold plusK
  split
  · exact h
  · rename_i hk
    rw [inK_iff] at hk
    exact List.nodup_append.mpr ⟨h, List.nodup_cons.mpr ⟨List.not_mem_nil, List.nodup_nil⟩, fun x hx y hy e => hk (by rw [List.mem_singleton.mp hy] at e; rw [← e]; exact hx)⟩
theorem plusK_len {k : Key} : (plusK ks k).length ≤ ks.length + 1 := by
  unfold plusK
  split
  · omega
  · simp
theorem SetW.size (x : SetW P w h a ks) : ks.length < scanBound := by
  obtain ⟨o, es, ep, t, _, _, _, _, pm, _, hb, _⟩ := x
  rw [← pm.length_eq, List.length_map, Array.length_toList]
  exact hb
theorem putW {o : Obj} {es es' : Array (Int × Value)} {ep : Nat} {t t' : SetTable} (ho : h.get? a = some o) (hd : o.data = .set es ep t) :
    (h.update a (Obj.putSet es' t')).get? a = some { o with data := .set es' (ep + 1) t' } := (by
  have q := Heap.get?_update_self (Obj.putSet es' t') ho (by rw [putSet_of es' t' hd]; rfl)
  rwa [putSet_of es' t' hd] at q)
/-- the table behind an entry that is new -/
theorem tailW {g : Bool → Sem Unit} (hg : ∀ (b : Bool) (s1 : Shared) (R : Unit → Shared → Prop), R () s1 → wpAny (model P w) A (g b) R E s1)
    {o : Obj} {es es1 : Array (Int × Value)} {ep : Nat} {t t2 : SetTable} (ho : s.heap.get? a = some o) (hex : o.ExactSet) (hd : o.data = .set es ep t)
    (g1 : ∀ e, e ∈ es1.toList → GdW P w e) (pm1 : (es1.toList.map keyW).Perm ks) (nd : ks.Nodup) (hb1 : es1.size < scanBound) (hf2 : t2.fits es1.size = true) (hr : Ris t2.place.toList)
    (hl : w.params.followText "set-order" = true ∨ t2.led = true) {dm : Bool} {R : Option Bool → Shared → Prop} (hR : ∀ h', Heap.SameBut a s.heap h' → SetW P w h' a ks → R (some true) { s with heap := h' }) :
    wpAny (model P w) A (do
        storeSet a es1 t2
        if (!dm && t2.tooFull) = true then do
            g (relayAll t2 es1 (SetTable.grown es1.size)).2.2
            storeSet a (relayAll t2 es1 (SetTable.grown es1.size)).1 (relayAll t2 es1 (SetTable.grown es1.size)).2.1
            pure (some true)
          else pure (some true)) R E s := by
  have sb1 := Heap.SameBut.update s.heap a (Obj.putSet es1 t2)
  have ho1 := putW (es' := es1) (t' := t2) ho hd
  refine wpAny_bind (wpAny_storeSet_of ho hd ?_ (fits_of_scanBound hb1))
  split
  · have pmR := relayAll_perm t2 es1 (SetTable.grown es1.size)
    have fitR := relayAll_fits t2 es1 (SetTable.grown es1.size)
    have risR := relayAll_ris t2 es1 (SetTable.grown es1.size)
    have ledR := relayAll_led t2 es1 (SetTable.grown es1.size)
    generalize relayAll t2 es1 (SetTable.grown es1.size) = Z at pmR fitR risR ledR ⊢
    obtain ⟨es2, t3, gv⟩ := Z
    dsimp only at pmR fitR risR ledR ⊢
    have z2 : es2.size = es1.size := by rw [← Array.length_toList, pmR.length_eq, Array.length_toList]
    have hb2 : es2.size < scanBound := z2 ▸ hb1
    refine wpAny_bind (hg _ _ _ (wpAny_bind (wpAny_storeSet_of ho1 rfl ?_ (fits_of_scanBound hb2))))
    have ho2 := putW (es' := es2) (t' := t3) ho1 rfl
    exact wpAny_pure (hR _ (sb1.trans (Heap.SameBut.update _ a _)) ⟨_, es2, _, t3, ho2, hex, rfl, fun e he => g1 e (pmR.mem_iff.mp he), (pmR.map keyW).trans pm1, nd, hb2, fitR, risR, hl.imp id fun z => by rw [ledR]; exact z⟩)
  · exact wpAny_pure (hR _ sb1 ⟨_, es1, _, t2, ho1, hex, rfl, g1, pm1, nd, hb1, hf2, hr, hl⟩)
theorem addW_hashed {k : Key} {v : Value} {Q : Bool → Shared → Prop} (hk : (mixKind P w).is k v = true) (hv : v.scannable = true) (x : SetW P w s.heap a ks) (room : ks.length + 1 < scanBound)
    (hQ : ∀ h', Heap.SameBut a s.heap h' → SetW P w h' a (plusK ks k) → ∀ b, Q b { s with heap := h' }) : wpAny (model P w) A (setAddHashed a v ((mixKind P w).hash k)) Q E s := by
  obtain ⟨o, es, ep, t, ho, hex, hd, g, pm, nd, hb, hf, hr, hl⟩ := x
  have hel := gdW_elems g
  have szl : es.size = ks.length := by rw [← pm.length_eq, List.length_map, Array.length_toList]
  unfold setAddHashed setAddHashedIn
  refine wpAny_holding (wpAny_bind (wpAny_setState_of ho hd hf ?_))
  dsimp only
  rw [byScan_of hv hb hel]
  simp only [↓reduceIte]
  unfold setAddByScan
  refine wpAny_bind (wpAny_bind (wpAny_rule (wpAny_bind (wpAny_setScan_of hk ho hd hf hel ?_))))
  cases hfi : List.findIdx? (fun e => (mixKind P w).is k e.2) es.toList with
  | some j =>
    dsimp only
    obtain ⟨hj, pj, _⟩ := List.findIdx?_eq_some_iff_getElem.mp hfi
    have hin : k ∈ ks := pm.mem_iff.mp (List.mem_map.mpr ⟨es.toList[j], List.getElem_mem hj, keyW_of pj⟩)
    refine wpAny_pure (wpAny_pure ?_)
    refine hQ s.heap (Heap.SameBut.refl a s.heap) ?_ _
    unfold plusK
    rw [if_pos (inK_iff.mpr hin)]
    exact ⟨o, es, ep, t, ho, hex, hd, g, pm, nd, hb, hf, hr, hl⟩
  | none =>
    dsimp only
    have hno : k ∉ ks := fun z => by
      obtain ⟨e, he, q⟩ := List.mem_map.mp (pm.mem_iff.mpr z)
      have c := List.findIdx?_eq_none_iff.mp hfi e he
      rw [← q, (g e he).1] at c
      cases c
    have fin0 : plusK ks k = ks ++ [k] := by unfold plusK; rw [if_neg (fun z => hno (inK_iff.mp z))]
    have pmN := layNew_perm t es ((mixKind P w).hash k) v
    have fitN := layNew_fits t es ((mixKind P w).hash k) v
    have risN := layNew_ris t es ((mixKind P w).hash k) v hr
    have ledN := layNew_led t es ((mixKind P w).hash k) v
    generalize layNew t es ((mixKind P w).hash k) v = Z at pmN fitN risN ledN ⊢
    obtain ⟨es1, t1, dm, gv⟩ := Z
    dsimp only at pmN fitN risN ledN ⊢
    rw [Array.toList_push] at pmN
    have kv : keyW ((mixKind P w).hash k, v) = k := keyW_of (P := P) (w := w) hk
    have g1 : ∀ e, e ∈ es1.toList → GdW P w e := fun e he => by
      rcases List.mem_append.mp (pmN.mem_iff.mp he) with z | z
      · exact g e z
      · rw [List.mem_singleton.mp z]
        exact ⟨by rw [kv]; exact hk, by rw [kv], hv⟩
    have pm1 : (es1.toList.map keyW).Perm (plusK ks k) := by
      have q := pmN.map keyW
      rw [List.map_append, List.map_cons, List.map_nil, kv] at q
      rw [fin0]
      exact q.trans (pm.append_right [k])
    have sz1 : es1.size = ks.length + 1 := by
      rw [← Array.length_toList, pmN.length_eq, List.length_append, Array.length_toList, szl]
      rfl
    have hb1 : es1.size < scanBound := by rw [sz1]; exact room
    have hled : w.params.followText "set-order" = true ∨ t1.led = true := hl.imp id fun z => by rw [ledN]; exact z
    have gw : ∀ (b : Bool) {s1 : Shared} {R : Unit → Shared → Prop}, R () s1 → wpAny (model P w) A (match b with | true => rule "set.scan.the-table-gave-way" | false => pure ()) R E s1 :=
      fun b s1 R q => by
        cases b
        · exact wpAny_pure q
        · exact wpAny_rule q
    refine wpAny_bind (gw _ ?_)
    split
    · refine wpAny_bind ?_
      rw [hashByValue_scannable 8 hv]
      refine wpAny_pure (tailW ?_ ho hex hd g1 pm1 (plusK_nd nd) hb1 ?_ ?_ ?_ ?_)
      · intro b s1 R q
        cases b
        · exact wpAny_pure q
        · exact wpAny_rule q
      · split
        · first | exact fitN | exact SetTable.fits_plain_off fitN
        · first | exact fitN | exact SetTable.fits_plain_off fitN
      · split <;> exact risN
      · split <;> exact hled
      · intro h' sb r
        dsimp only
        exact wpAny_pure (hQ h' sb r _)
    · refine wpAny_bind (wpAny_pure ?_)
      simp only [↓reduceIte]
      refine tailW ?_ ho hex hd g1 pm1 (plusK_nd nd) hb1 fitN risN hled ?_
      · intro b s1 R q
        cases b
        · exact wpAny_pure q
        · exact wpAny_rule q
      · intro h' sb r
        dsimp only
        exact wpAny_pure (hQ h' sb r _)
end
/-! ### set(xs) -/
def dedupK (ks : List Key) : List Key := ks.foldl plusK []
theorem dedup_step (ks : List Key) (k : Key) : dedupK (ks ++ [k]) = plusK (dedupK ks) k := by
  unfold dedupK
  rw [List.foldl_append]
  rfl
theorem dedup_len : ∀ ks : List Key, (dedupK ks).length ≤ ks.length := fun ks => by
  have h : ∀ (l acc : List Key), (l.foldl plusK acc).length ≤ acc.length + l.length := fun l => by
    induction l with
    | nil => exact fun acc => Nat.le_refl _
    | cons k l ih =>
      intro acc
      have z := ih (plusK acc k)
      have y := plusK_len (ks := acc) (k := k)
      rw [List.foldl_cons, List.length_cons]
      omega
  have z := h ks []
  rw [List.length_nil, Nat.zero_add] at z
  exact z
theorem dedup_nd : ∀ ks : List Key, (dedupK ks).Nodup := fun ks => by
  have h : ∀ (l acc : List Key), acc.Nodup → (l.foldl plusK acc).Nodup := fun l => by
    induction l with
    | nil => exact fun acc z => z
    | cons k l ih => exact fun acc z => ih _ (plusK_nd z)
  exact h ks [] List.nodup_nil
theorem dedup_mem {k : Key} (ks : List Key) : k ∈ dedupK ks ↔ k ∈ ks := by
  have h : ∀ (l acc : List Key), k ∈ l.foldl plusK acc ↔ k ∈ acc ∨ k ∈ l := fun l => by
    induction l with
    | nil => exact fun acc => ⟨.inl, fun z => z.elim id fun y => absurd y List.not_mem_nil⟩
    | cons j l ih =>
      intro acc
      rw [List.foldl_cons, ih]
      unfold plusK
      split
      · rename_i hj
        rw [inK_iff] at hj
        rw [List.mem_cons]
        exact ⟨fun z => z.elim .inl fun y => .inr (.inr y), fun z => z.elim .inl fun y => y.elim (fun e => .inl (e ▸ hj)) .inr⟩
      · rw [List.mem_append, List.mem_singleton, List.mem_cons]
        exact ⟨fun z => z.elim (fun y => y.elim .inl fun e => .inr (.inl e)) fun y => .inr (.inr y), fun z => z.elim (fun y => .inl (.inl y)) fun y => y.elim (fun e => .inl (.inr e)) .inr⟩
  rw [show dedupK ks = ks.foldl plusK [] from rfl, h]
  exact ⟨fun z => z.elim (fun y => absurd y List.not_mem_nil) id, .inr⟩
def setNo (w : World) : Obj := { cls := .type "set", dict := none, data := .set #[] 0 (.fresh 0 0 (!w.params.followText "set-order")) }
theorem setW_none {P : Program} {w : World} {h : Heap} {a : Addr} (ho : h.get? a = some (setNo w)) : SetW P w h a [] :=
  ⟨_, #[], 0, _, ho, ⟨rfl, rfl, rfl⟩, rfl, fun e he => by simp at he, by simp, List.nodup_nil, by decide, rfl, List.Pairwise.nil, by
    show _ ∨ (!w.params.followText "set-order") = true
    cases w.params.followText "set-order"
    · exact .inr rfl
    · exact .inl rfl⟩
section
variable {P : Program} {w : World} {A : Around} {E : Value → Shared → Prop} {s : Shared}
theorem loopW {I : Addr} {fp wr : List Addr} {G : Array GenState → Array GenState → Prop} {n : Nat} {Pv : Nat → Value → Prop} {St : Nat → Shared → Prop} {R : Result → Shared → Prop}
    (W : WalksS P w A.in1 I fp wr G n Pv St) (D : Addr) (hD : D ∉ fp) (ks : List Key) (hn : n = ks.length) (hb : ks.length + 1 < scanBound) (hval : ∀ i v, Pv i v → ∃ k, ks[i]? = some k ∧ (mixKind P w).is k v = true ∧ v.scannable = true) :
    ∀ (k i : Nat) (s : Shared), n - i = k → i ≤ n → St i s → SetW P w s.heap D (dedupK (ks.take i)) →
      (∀ s', Moved (D :: wr) G s s' → SetW P w s'.heap D (dedupK ks) → R (.ok (.ret .none)) s') →
      codeAny (model P w) A (.builtin "set.update.loop" ⟨[.ref D, .ref I], []⟩) R s := by
  have hDw : D ∉ wr := fun z => hD (W.sub _ z)
  have sub : ∀ b, b ∈ wr → b ∈ D :: wr := fun b z => List.mem_cons_of_mem _ z
  intro k
  induction k with
  | zero =>
    intro i s e0 hi st hS hR
    obtain rfl : i = n := by omega
    refine codeAny_builtin F.entry_set_update_loop ?_
    rw [Around.under_plainId F.plain_set_update_loop _]
    show wpAny _ A.in1 (pyNext (.ref I) >>= _) _ _ s
    refine wpAny_bind (W.done s _ _ st fun s' mv => ?_)
    show wpAny _ A.in1 (ret Value.none) _ _ s'
    rw [List.take_of_length_le (show ks.length ≤ i by omega)] at hS
    exact wpAny_pure (hR s' (mv.mono sub) (hS.at fun o e => mv.heap D o hDw e))
  | succ k ih =>
    intro i s e0 hi st hS hR
    have hlt : i < n := by omega
    refine codeAny_builtin F.entry_set_update_loop ?_
    rw [Around.under_plainId F.plain_set_update_loop _]
    show wpAny _ A.in1 (pyNext (.ref I) >>= _) _ _ s
    refine wpAny_bind (W.item i s _ _ hlt st fun v s' hP st' mv => ?_)
    obtain ⟨z, hz, hzi, hzs⟩ := hval i v hP
    have hS1 : SetW P w s'.heap D (dedupK (ks.take i)) := hS.at fun o e => mv.heap D o hDw e
    show wpAny _ A.in1 (holding [v] (setAdd D v) >>= _) _ _ s'
    refine wpAny_bind (wpAny_holding ?_)
    unfold setAdd
    refine wpAny_holding (wpAny_bind ((mixKind P w).pyHash hzi ?_))
    have hlen : (dedupK (ks.take i)).length + 1 < scanBound := by
      have z1 := dedup_len (ks.take i)
      have z2 : (ks.take i).length ≤ ks.length := by rw [List.length_take]; omega
      omega
    refine addW_hashed (s := { s' with toks := s'.toks + 1 }) hzi hzs hS1 hlen fun h' sb hS2 b => ?_
    have hS3 : SetW P w h' D (dedupK (ks.take (i + 1))) := by
      rw [List.take_add_one, hz]
      show SetW P w h' D (dedupK (ks.take i ++ [z]))
      rw [dedup_step]
      exact hS2
    refine wpAny_pure ⟨plainId_quiet F.plain_set_update_loop _, ih (i + 1) _ (by omega) hlt (W.frame _ s' _ _ st' (Nat.le_succ _) fun c hc o e => ?_) hS3 fun s2 mv2 hS4 => ?_⟩
    · exact (sb.2 c fun y : c = D => hD (y ▸ hc)).trans e
    · exact hR s2 (Moved.trans W.gtrans ((mv.mono sub).then_heap (Nat.le_succ _) fun c o hc e => (sb.2 c fun y : c = D => hc (y ▸ List.mem_cons_self)).trans e) mv2) hS4
/-- a list or a tuple, walked -/
structure SeqT (T : String) : Prop where
  s1 : isSubtype (.type T) (.type "set") = pure false
  s2 : isSubtype (.type T) (.type "frozenset") = pure false
  s3 : (Value.type T == Value.type "dict") = false
theorem seqT_list : SeqT "list" := ⟨F.sub_list_set, F.sub_list_frozenset, by decide⟩
theorem seqT_tuple : SeqT "tuple" := ⟨F.sub_tuple_set, F.sub_tuple_frozenset, by decide⟩
theorem initW {T : String} (x : SeqT T) {D l : Addr} {Q : PySem.Fin → Shared → Prop} (hS : s.heap.get? D = some (setNo w)) (ty : s.TypeIs (.ref l) T)
    (h : wpAny (model P w) A (pyIter (.ref l)) (fun it s' => wpAny (model P w) A (runValue (.builtin "set.update.loop" ⟨[.ref D, it], []⟩)) (fun _ s2 => wpAny (model P w) A (ret Value.none) Q E s2) E s') E s) :
    wpAny (model P w) A (Builtin.«set.__init__» ⟨[.ref D, .ref l], []⟩) Q E s := by
  have hT : s.TypeIs (.ref D) "set" := ⟨_, hS, rfl⟩
  obtain ⟨q1, q2, q3⟩ := x
  unfold setNo at hS
  generalize hG : (fun it s' => wpAny (model P w) A (runValue (.builtin "set.update.loop" ⟨[.ref D, it], []⟩)) (fun _ s2 => wpAny (model P w) A (ret Value.none) Q E s2) E s') = G at h
  unfold Builtin.«set.__init__» noKeywords Builtin.Frozenset.updateFrom
  generalize hPI : pyIter = PI at h ⊢
  wp_walk
  subst hG
  exact wpAny_mono h (fun it s1 h1 => wpAny_bind (wpAny_mono h1 (fun _ s2 h2 => wpAny_pure h2) fun _ _ z => z)) fun _ _ z => z
structure Box (p : Prop) : Prop where
  out : p
/-- set(xs) runs its __init__ over a new set -/
theorem callSetW {l : Addr} {Q : Value → Shared → Prop}
    (h : Box (∀ A' : Around, A'.handled = A.handled → wpAny (model P w) A' (Builtin.«set.__init__» ⟨[.ref s.heap.objs.size, .ref l], []⟩) (fun r s2 => r = .done (.ret .none) ∧ Q (.ref s.heap.objs.size) s2) E { s with heap := s.heap.push (setNo w) })) : wpAny (model P w) A (call (.type "set") [.ref l]) Q E s := by
  refine wpAny_call (codeAny_of_tree ?_)
  show wpAny _ _ (callAny (.type "set") _) _ _ _
  refine wpAny_pure ⟨Code.quiet_builtin _ (by decide +kernel), codeAny_builtin F.entry_type_call ?_⟩
  rw [Around.under_plain (weight_type_call_type "set" [.ref l] []) rfl]
  have hsub := F.called_set.sub
  have hT : Shared.TypeIs { s with heap := s.heap.push (setNo w) } (.ref s.heap.objs.size) "set" := ⟨_, Heap.get?_push_size _ rfl, rfl⟩
  obtain ⟨c, tl, hmro⟩ := F.called_set.mro
  have hmade := F.called_set.made
  have h1 := F.called_set.notType
  have h2 := F.called_set.canCreate
  have hct := F.typeCall_set_1 (.ref l)
  repeat (any_goals (first | assumption | wp_step))
  clear hmro hmade h1 h2 hct
  refine codeAny_mono (code_set_led1 (.ref l) (E := E) (Q₁ := fun ob s1 => ob = .ref s.heap.objs.size ∧ s1 = { s with heap := s.heap.push (setNo w) }) ⟨rfl, rfl⟩) fun r s1 hr => ?_
  cases r with
  | error e => exact hr
  | ok fl =>
    cases fl with
    | ret ob =>
      obtain ⟨rfl, rfl⟩ := hr
      have hli := F.called_set.init.lookup
      have hbi := F.called_set.init.bind (.ref s.heap.objs.size)
      repeat (any_goals (first | assumption | wp_step))
      refine codeAny_mono (codeAny_call_builtin (R := wants (fun r s2 => r = .none ∧ Q (.ref s.heap.objs.size) s2) E) F.called_set.init.plain F.entry_set_init (check_set_init_1 hT ?_)) fun r2 s2 hr2 => ?_
      · refine wpAny_mono (h.out _ rfl) (fun r s2 ⟨e, q⟩ => ?_) fun _ _ z => z
        subst e
        exact ⟨rfl, q⟩
      · cases r2 with
        | error e => exact hr2
        | ok fl2 =>
          cases fl2 with
          | ret r =>
            obtain ⟨rfl, q⟩ := hr2
            repeat (any_goals (first | assumption | wp_step))
          | _ => exact hr2.elim
    | _ => exact hr.elim
theorem setW_seq {l : Addr} {items : Array Value} {ks : List Key} {Q : Value → Shared → Prop} (hh : A.handled = none) (hl : s.heap.IsList l items ∨ s.heap.IsTuple l items) (hit : items.size = ks.length)
    (hval : ∀ (i : Nat) (v : Value), items[i]? = some v → ∃ k, ks[i]? = some k ∧ (mixKind P w).is k v = true ∧ v.scannable = true) (hb : ks.length + 1 < scanBound)
    (h : ∀ (h' : Heap) (tk : Nat), SetW P w h' s.heap.objs.size (dedupK ks) → (∀ b o, s.heap.get? b = some o → h'.get? b = some o) → Q (.ref s.heap.objs.size) { s with heap := h', toks := tk }) :
    wpAny (model P w) A (call (.type "set") [.ref l]) Q E s := by
  refine callSetW ⟨fun A' hA => ?_⟩
  have hS : (s.heap.push (setNo w)).get? s.heap.objs.size = some (setNo w) := Heap.get?_push_size _ rfl
  have hlS : l < s.heap.objs.size := by
    rcases hl with hl | hl
    · obtain ⟨o, ho, _⟩ := hl
      exact Heap.lt_size ho
    · obtain ⟨o, ho, _⟩ := hl
      exact Heap.lt_size ho
  have z1 : (s.heap.push (setNo w)).objs.size = s.heap.objs.size + 1 := Heap.size_push ..
  have neI : l ≠ (s.heap.push (setNo w)).objs.size := by rw [z1]; exact Nat.ne_of_lt (Nat.lt_succ_of_lt hlS)
  have hSf : s.heap.objs.size ∉ [(s.heap.push (setNo w)).objs.size, l] := by
    rw [z1]
    simp only [List.mem_cons, List.not_mem_nil, or_false, not_or]
    exact ⟨Nat.ne_of_lt (Nat.lt_succ_self _), Nat.ne_of_gt hlS⟩
  have hh3 : A'.in1.handled = none := hA.trans hh
  have start : ∀ it : Obj, SetW P w ((s.heap.push (setNo w)).push it) s.heap.objs.size (dedupK (ks.take 0)) := fun it => setW_none (Heap.get?_push_of_some _ hS)
  have fin : ∀ (it : Obj) {G : Array GenState → Array GenState → Prop} (s' : Shared), (∀ a b, G a b → b = a) → Moved [s.heap.objs.size, (s.heap.push (setNo w)).objs.size] G { s with heap := (s.heap.push (setNo w)).push it } s' → SetW P w s'.heap s.heap.objs.size (dedupK ks) → Q (.ref s.heap.objs.size) s' := by
    intro it G s' hG mv hW
    obtain ⟨h', g2, d2, tk2, os2⟩ := s'
    have eg : g2 = s.gens := hG _ _ mv.gens
    have ed : d2 = s.drawn := mv.drawn
    have eo : os2 = s.os := mv.os
    subst eg ed eo
    refine h h' tk2 hW fun b o e => ?_
    have b0 : b < s.heap.objs.size := Heap.lt_size e
    refine mv.heap b o (fun z => ?_) (Heap.get?_push_of_some _ (Heap.get?_push_of_some _ e))
    rcases List.mem_cons.mp z with z | z
    · exact absurd b0 (by rw [z]; exact Nat.lt_irrefl _)
    · exact absurd b0 (by rw [List.mem_singleton.mp z, z1]; exact Nat.not_lt.mpr (Nat.le_succ _))
  rcases hl with hl | hl
  · obtain ⟨o, ho, hc, nl, hd⟩ := hl
    have il : (s.heap.push (setNo w)).IsList l items := ⟨o, Heap.get?_push_of_some _ ho, hc, nl, hd⟩
    refine initW seqT_list hS ⟨o, Heap.get?_push_of_some _ ho, hc⟩ (wpAny_pyIter_list il (wpAny_runValue ?_))
    refine loopW ((Walks.list hh3 _ l neI items).toS) s.heap.objs.size hSf ks hit hb hval (items.size - 0) 0 _ (by omega) (Nat.zero_le _) ⟨⟨_, Heap.get?_push_size _ rfl, rfl, rfl⟩, (il.push _)⟩ (start _) fun s' mv hW => ?_
    exact wpAny_pure ⟨rfl, fin _ s' (fun _ _ z => z) mv hW⟩
  · obtain ⟨o, ho, hc, nl, hd⟩ := hl
    have il : (s.heap.push (setNo w)).IsTuple l items := ⟨o, Heap.get?_push_of_some _ ho, hc, nl, hd⟩
    refine initW seqT_tuple hS ⟨o, Heap.get?_push_of_some _ ho, hc⟩ (wpAny_pyIter_tuple il (wpAny_runValue ?_))
    refine loopW ((Walks.tuple hh3 _ l neI items).toS) s.heap.objs.size hSf ks hit hb hval (items.size - 0) 0 _ (by omega) (Nat.zero_le _) ⟨⟨_, Heap.get?_push_size _ rfl, rfl, rfl⟩, (il.push _)⟩ (start _) fun s' mv hW => ?_
    exact wpAny_pure ⟨rfl, fin _ s' (fun _ _ z => z) mv hW⟩
/-! ### sorted(set), len(set) -/
def keyDat : Key → PyData
  | .inl i => .int i
  | .inr x => .str x
theorem reads_key {h : Heap} {k : Key} {v : Value} (hk : (mixKind P w).is k v = true) : ∃ as, Reads h v (keyDat k) as := by
  rcases keyIs_shape (show keyIs k v = true from hk) with ⟨i, t, rfl, rfl⟩ | ⟨x, t, rfl, rfl⟩
  · exact ⟨_, .int i t⟩
  · exact ⟨_, .str x t⟩
end
end Dn
namespace Dn
open PySem PySem.Spec PyProof.Rows L2
/-! ### keys of one kind -/
def intsOf : List PyData → Option (List Key)
  | [] => some []
  | .int i :: ds => (intsOf ds).map (Sum.inl i :: ·)
  | _ => none
def strsOf : List PyData → Option (List Key)
  | [] => some []
  | .str x :: ds => (strsOf ds).map (Sum.inr x :: ·)
  | _ => none
/-- ints alone or texts alone -/
def keysOf (ds : List PyData) : Option (List Key) := match intsOf ds with
  | some ks => some ks
  | none => strsOf ds
theorem intsOf_map : ∀ {ds : List PyData} {ks : List Key}, intsOf ds = some ks → ds = ks.map keyDat ∧ ∀ k, k ∈ ks → ∃ i, k = .inl i
  | [], _, h => by cases h; exact ⟨rfl, fun k z => absurd z List.not_mem_nil⟩
  | d :: ds, ks, h => by
    cases d <;> try (cases h; done)
    rename_i i
    have h : (intsOf ds).map (Sum.inl i :: ·) = some ks := h
    cases hq : intsOf ds with
    | none => rw [hq] at h; cases h
    | some q =>
      rw [hq] at h
      cases h
      obtain ⟨e, z⟩ := intsOf_map hq
      exact ⟨by rw [e]; rfl, fun k hk => (List.mem_cons.mp hk).elim (fun e => ⟨i, e⟩) (z k)⟩
theorem strsOf_map : ∀ {ds : List PyData} {ks : List Key}, strsOf ds = some ks → ds = ks.map keyDat ∧ ∀ k, k ∈ ks → ∃ x, k = .inr x
  | [], _, h => by cases h; exact ⟨rfl, fun k z => absurd z List.not_mem_nil⟩
  | d :: ds, ks, h => by
    cases d <;> try (cases h; done)
    rename_i i
    have h : (strsOf ds).map (Sum.inr i :: ·) = some ks := h
    cases hq : strsOf ds with
    | none => rw [hq] at h; cases h
    | some q =>
      rw [hq] at h
      cases h
      obtain ⟨e, z⟩ := strsOf_map hq
      exact ⟨by rw [e]; rfl, fun k hk => (List.mem_cons.mp hk).elim (fun e => ⟨i, e⟩) (z k)⟩
def OneKind (ks : List Key) : Prop := (∀ k, k ∈ ks → ∃ i, k = Sum.inl i) ∨ (∀ k, k ∈ ks → ∃ x, k = Sum.inr x)
theorem keysOf_map {ds : List PyData} {ks : List Key} (h : keysOf ds = some ks) : ds = ks.map keyDat ∧ OneKind ks := by
  unfold keysOf at h
  cases hq : intsOf ds with
  | some q =>
    rw [hq] at h
    cases h
    obtain ⟨e, z⟩ := intsOf_map hq
    exact ⟨e, .inl z⟩
  | none =>
    rw [hq] at h
    obtain ⟨e, z⟩ := strsOf_map h
    exact ⟨e, .inr z⟩
theorem keysOf_ints (ns : List Int) : keysOf (ns.map .int) = some (ns.map .inl) := by
  have h : ∀ ns : List Int, intsOf (ns.map .int) = some (ns.map .inl) := fun ns => by
    induction ns with
    | nil => rfl
    | cons n ns ih =>
      show (intsOf (ns.map .int)).map (Sum.inl n :: ·) = _
      rw [ih]; rfl
  unfold keysOf
  rw [h]
theorem keysOf_strs (xs : List Str) : keysOf (xs.map .str) = some (xs.map .inr) := by
  have h : ∀ xs : List Str, strsOf (xs.map .str) = some (xs.map .inr) := fun xs => by
    induction xs with
    | nil => rfl
    | cons n ns ih =>
      show (strsOf (ns.map .str)).map (Sum.inr n :: ·) = _
      rw [ih]; rfl
  unfold keysOf
  cases xs with
  | nil => rfl
  | cons x xs => exact h (x :: xs)
theorem OneKind.sub {ks js : List Key} (h : OneKind ks) (s : ∀ k, k ∈ js → k ∈ ks) : OneKind js := h.imp (fun z k hk => z k (s k hk)) fun z k hk => z k (s k hk)
theorem kind_alike {ks : List Key} (h : OneKind ks) : PySem.W.AllAlike (ks.map keyDat) := fun d hd e he => by
  obtain ⟨a, ha, rfl⟩ := List.mem_map.mp hd
  obtain ⟨b, hb, rfl⟩ := List.mem_map.mp he
  rcases h with h | h
  · obtain ⟨i, rfl⟩ := h a ha
    obtain ⟨j, rfl⟩ := h b hb
    rfl
  · obtain ⟨i, rfl⟩ := h a ha
    obtain ⟨j, rfl⟩ := h b hb
    rfl
theorem key_sortable (ks : List Key) : PySem.W.Sortable (ks.map keyDat) := .inr fun d hd => by
  obtain ⟨a, _, rfl⟩ := List.mem_map.mp hd
  cases a with
  | inl i => exact ⟨fun z => (nomatch z), fun xs z => (nomatch z)⟩
  | inr i => exact ⟨fun z => (nomatch z), fun xs z => (nomatch z)⟩
/-! ### the one arrangement -/
def leI (i j : Int) : Bool := decide (i ≤ j)
def leS (x y : Str) : Bool := decide (x.cps.toList ≤ y.cps.toList)
def leK (a b : Key) : Bool := PySem.W.dataLe false keyDat a b
theorem leK_int (i j : Int) : leK (.inl i) (.inl j) = leI i j := congrFun (congrFun (PySem.W.dataLe_int (β := Int) (fun i => i)) i) j
theorem leK_str (x y : Str) : leK (.inr x) (.inr y) = leS x y := congrFun (congrFun (PySem.W.dataLe_str (β := Str) (fun x => x)) x) y
theorem leI_pw (l : List Int) : (l.mergeSort leI).Pairwise fun a b => leI a b = true := List.pairwise_mergeSort (le := leI) (fun a b c h1 h2 => decide_eq_true (Int.le_trans (of_decide_eq_true h1) (of_decide_eq_true h2))) (fun a b => by
  rcases Int.le_total a b with h | h
  · show (decide (a ≤ b) || _) = true; rw [decide_eq_true h]; rfl
  · show (_ || decide (b ≤ a)) = true; rw [decide_eq_true h, Bool.or_true]) l
theorem leS_pw (l : List Str) : (l.mergeSort leS).Pairwise fun a b => leS a b = true := List.pairwise_mergeSort (le := leS) (fun a b c h1 h2 => decide_eq_true (List.le_trans (of_decide_eq_true h1) (of_decide_eq_true h2))) (fun a b => by
  rcases List.le_total a.cps.toList b.cps.toList with h | h
  · show (decide (a.cps.toList ≤ b.cps.toList) || _) = true; rw [decide_eq_true h]; rfl
  · show (_ || decide (b.cps.toList ≤ a.cps.toList)) = true; rw [decide_eq_true h, Bool.or_true]) l
theorem str_ext {x y : Str} (h : x.cps.toList = y.cps.toList) : x = y := by
  obtain ⟨⟨a⟩⟩ := x
  obtain ⟨⟨b⟩⟩ := y
  cases h
  rfl
theorem sortI_perm {l m : List Int} (p : l.Perm m) : l.mergeSort leI = m.mergeSort leI :=
  List.Perm.eq_of_pairwise (le := fun a b => leI a b = true) (fun a b _ _ h1 h2 => Int.le_antisymm (of_decide_eq_true h1) (of_decide_eq_true h2)) (leI_pw l) (leI_pw m) ((List.mergeSort_perm l leI).trans (p.trans (List.mergeSort_perm m leI).symm))
theorem sortS_perm {l m : List Str} (p : l.Perm m) : l.mergeSort leS = m.mergeSort leS :=
  List.Perm.eq_of_pairwise (le := fun a b => leS a b = true) (fun a b _ _ h1 h2 => str_ext (List.le_antisymm (of_decide_eq_true h1) (of_decide_eq_true h2))) (leS_pw l) (leS_pw m) ((List.mergeSort_perm l leS).trans (p.trans (List.mergeSort_perm m leS).symm))
def unI : Key → Int
  | .inl i => i
  | .inr _ => 0
def unS : Key → Str
  | .inl _ => ""
  | .inr x => x
theorem ints_form {ks : List Key} (h : ∀ k, k ∈ ks → ∃ i, k = Sum.inl i) : ks = (ks.map unI).map Sum.inl := by
  rw [List.map_map]
  refine ((List.map_congr_left (fun k hk => ?_)).trans (List.map_id ks)).symm
  obtain ⟨i, rfl⟩ := h k hk
  rfl
theorem strs_form {ks : List Key} (h : ∀ k, k ∈ ks → ∃ x, k = Sum.inr x) : ks = (ks.map unS).map Sum.inr := by
  rw [List.map_map]
  refine ((List.map_congr_left (fun k hk => ?_)).trans (List.map_id ks)).symm
  obtain ⟨i, rfl⟩ := h k hk
  rfl
theorem sortK_ints (ns : List Int) : (ns.map (Sum.inl : Int → Key)).mergeSort leK = (ns.mergeSort leI).map Sum.inl := (List.map_mergeSort fun a _ b _ => (leK_int a b).symm).symm
theorem sortK_strs (xs : List Str) : (xs.map (Sum.inr : Str → Key)).mergeSort leK = (xs.mergeSort leS).map Sum.inr := (List.map_mergeSort fun a _ b _ => (leK_str a b).symm).symm
theorem sortK_perm {js ks : List Key} (h : OneKind ks) (p : js.Perm ks) : js.mergeSort leK = ks.mergeSort leK := by
  rcases h with h | h
  · have hj : ∀ k, k ∈ js → ∃ i, k = Sum.inl i := fun k hk => h k (p.mem_iff.mp hk)
    rw [ints_form h, ints_form hj, sortK_ints, sortK_ints, sortI_perm (p.map unI)]
  · have hj : ∀ k, k ∈ js → ∃ i, k = Sum.inr i := fun k hk => h k (p.mem_iff.mp hk)
    rw [strs_form h, strs_form hj, sortK_strs, sortK_strs, sortS_perm (p.map unS)]
/-! ### the calls -/
def SetWO (P : Program) (w : World) (a : Addr) (ks : List Key) : HO := .ext fun h => SetW P w h a ks
theorem setWO_new {P : Program} {w : World} {H : Hp} {h : Heap} {a : Addr} {ks : List Key} (x : SetW P w h a ks) : ObjOk P w H h a (SetWO P w a ks) := by
  have ⟨o, _, _, _, ho, _⟩ := x
  exact ⟨x, ⟨o, ho⟩, fun h1 h2 p k => SetW.at p k⟩
section
variable {X : Cx}
theorem setWO_get {pins : List (Addr × Obj)} {σ : L2.St} {H : Hp} {s : Shared} {a : Addr} {ks : List Key} (I : Inv X pins σ H s) (ha : H a = some (SetWO X.prog X.w a ks)) : SetW X.prog X.w s.heap a ks := (I.hok a _ ha).1
def onQ : PyData → Option (List PyData)
  | .list ds => some ds
  | .tuple ds => some ds
  | _ => none
def setKs (d : PyData) : Option (List Key) := match onQ d with
  | some ds => (match keysOf ds with
    | some ks => if ks.length ≤ 4000 then some ks else none
    | none => none)
  | none => none
theorem setKs_of {d : PyData} {ks : List Key} (h : setKs d = some ks) : (d = .list (ks.map keyDat) ∨ d = .tuple (ks.map keyDat)) ∧ OneKind ks ∧ ks.length ≤ 4000 := by
  unfold setKs at h
  cases hd : onQ d with
  | none => rw [hd] at h; cases h
  | some ds =>
    rw [hd] at h
    dsimp only at h
    cases hk : keysOf ds with
    | none => rw [hk] at h; cases h
    | some js =>
      rw [hk] at h
      dsimp only at h
      split at h
      · rename_i hl
        cases h
        obtain ⟨rfl, o⟩ := keysOf_map hk
        refine ⟨?_, o, hl⟩
        cases d <;> try (cases hd; done)
        · cases hd; exact .inl rfl
        · cases hd; exact .inr rfl
      · cases h
theorem key_vals {G : Hp} : ∀ {vs : List V} {ks : List Key}, DqAll G vs (ks.map keyDat) → vs = ks.map kV
  | _, [], .nil => rfl
  | _, k :: ks, .cons h t => by
    rw [key_vals t]
    cases k with
    | inl i => cases h; rfl
    | inr x => cases h; rfl
theorem key_items {P : Program} {w : World} : ∀ {ks : List Key} {us : List Value}, Vals (ks.map kV) us → us.length = ks.length ∧ ∀ (i : Nat) (v : Value), us[i]? = some v → ∃ k, ks[i]? = some k ∧ (mixKind P w).is k v = true ∧ v.scannable = true
  | [], _, .nil => ⟨rfl, fun i v h => by simp at h⟩
  | k :: ks, _, .cons r t => by
    obtain ⟨e, z⟩ := key_items (P := P) (w := w) t
    refine ⟨by rw [List.length_cons, List.length_cons, e], fun i v h => ?_⟩
    cases i with
    | zero =>
      simp at h
      subst h
      exact ⟨k, rfl, kV_is r, key_scan r⟩
    | succ i => exact z i v (by simpa using h)
/-- set(xs) -/
def rSetX (P : Program) (w : World) : List V → Hp → VK → Prop := fun vs H Q => ∃ (G : Hp) (x : V) (d : PyData) (ks : List Key), vs = [x] ∧ Same G H ∧ Opr G H x d ∧ setKs d = some ks ∧ ∀ p, H p = none → Q (.ref p) (upd H p (SetWO P w p (dedupK ks)))
theorem cr_setX (hc : X.calm = true) : CallR X (.type "set") (rSetX X.prog X.w) := by
  intro pins s σ H vs us Q I r h
  obtain ⟨G, x, d, ks, rfl, m, ho, hk, q⟩ := h
  obtain ⟨hd, ok, hl⟩ := setKs_of hk
  have lt : ks.length + 1 < scanBound := by unfold scanBound; omega
  have go : ∀ (a : Addr) (its : List Value), Vals (ks.map kV) its → (s.heap.IsList a its.toArray ∨ s.heap.IsTuple a its.toArray) → wpAny (model X.prog X.w) X.A (call (.type "set") [.ref a]) (EP X pins σ Q) X.xe s := fun a its rv hs => by
    obtain ⟨e1, e2⟩ := key_items (P := X.prog) (w := X.w) rv
    refine setW_seq (ks := ks) (I.ok.hd hc) hs (by rw [List.size_toArray]; exact e1) (fun i v hv => e2 i v (by simpa using hv)) lt fun h' tk hW kk => ?_
    refine ⟨.ref _, upd H s.heap.objs.size (SetWO X.prog X.w s.heap.objs.size (dedupK ks)), I.laid (t' := tk) kk (Nat.le_refl _) (setWO_new hW), rfl, q _ (I.hok.fresh (Nat.le_refl _))⟩
  cases r with
  | cons rx rt =>
    cases rt
    rcases hd with rfl | rfl
    · obtain ⟨a, vs, rfl, ha, da⟩ := opr_lst ho m
      cases rx
      rw [key_vals da] at ha
      obtain ⟨its, rv, pl, hz⟩ := I.list (SqL.of ha)
      exact go a its rv (.inl pl.isList)
    · obtain ⟨a, vs, rfl, ha, da, _⟩ := opr_tup ho m
      cases rx
      rw [key_vals da] at ha
      obtain ⟨its, rv, pl, hz⟩ := I.tuple (SqT.of ha)
      exact go a its rv (.inr pl)
/-- len of such a set -/
def rLenX (P : Program) (w : World) : List V → Hp → VK → Prop := fun vs H Q => ∃ (a : Addr) (ks : List Key), vs = [.ref a] ∧ H a = some (SetWO P w a ks) ∧ Q (.int ks.length) H
theorem cr_lenX : CallR X (.builtin "len") (rLenX X.prog X.w) := by
  intro pins s σ H vs us Q I r h
  obtain ⟨a, ks, rfl, ha, q⟩ := h
  have hs := setWO_get I ha
  have hz := hs.size
  obtain ⟨o, es, ep, t, ho, hex, hd, g, pm, nd, hb, hf, hr, hl⟩ := hs
  rw [Vals.ref1 r]
  have sz : es.size = ks.length := by rw [← pm.length_eq, List.length_map, Array.length_toList]
  unfold scanBound at hz
  exact call_len_set ho hex hd hf (by rw [sz]; omega) ⟨.int ks.length, H, I.tok _, ⟨_, by rw [sz]⟩, q⟩
/-- sorted of such a set -/
def rSortX (P : Program) (w : World) : List V → Hp → VK → Prop := fun vs H Q => ∃ (a : Addr) (ks : List Key), vs = [.ref a] ∧ H a = some (SetWO P w a ks) ∧ OneKind ks ∧ ∀ p, H p = none → Q (.ref p) (upd H p (.lst ((ks.mergeSort leK).map kV)))
theorem vals_keys {P : Program} {w : World} : ∀ {us : List Value} {ks : List Key}, PySem.W.EachIs (fun u k => (mixKind P w).is k u = true) us ks → Vals (ks.map kV) us
  | _, _, .nil => .nil
  | _, _, .cons h t => by
    refine .cons ?_ (vals_keys t)
    rcases keyIs_shape (show keyIs _ _ = true from h) with ⟨i, t, rfl, rfl⟩ | ⟨x, t, rfl, rfl⟩
    · exact ⟨t, rfl⟩
    · exact ⟨t, rfl⟩
theorem each_is {P : Program} {w : World} : ∀ (us : List Value), (∀ u, u ∈ us → (mixKind P w).is (keyW (0, u)) u = true) → PySem.W.EachIs (fun u k => (mixKind P w).is k u = true) us (us.map fun u => keyW (0, u))
  | [], _ => .nil
  | u :: us, h => .cons (h u List.mem_cons_self) (each_is us fun v hv => h v (List.mem_cons_of_mem _ hv))
theorem cr_sortX (hc : X.calm = true) (hu : X.A.units + 66 < cLine) : CallR X (.builtin "sorted") (rSortX X.prog X.w) := by
  intro pins s σ H vs us Q I r h
  obtain ⟨a, ks, rfl, ha, ok, q⟩ := h
  have hs := setWO_get I ha
  have hz := hs.size
  obtain ⟨o, es, ep, t, ho, hex, hd, g, pm, nd, hb, hf, hr, hl⟩ := hs
  rw [Vals.ref1 r]
  refine Calls.call_function_entry kind_sorted plain_sorted entry_sorted (args_sorted1 _) ?_
  unfold Builtin.«sorted»
  refine wpAny_bind (m := checkCount "sorted" 1 1 _) (wpAny_pure ?_)
  refine wpAny_bind (collect_set (A := X.A.in1) (I.ok.hd hc) ⟨o, ho, hex.1, hd⟩ hf hb hr hl fun s1 out k1 z1 g1 o1 pmo => ?_)
  have each := each_is (P := X.prog) (w := X.w) out fun u hu' => by
    obtain ⟨e, he, rfl⟩ := List.mem_map.mp (pmo.mem_iff.mp hu')
    exact (g e he).1
  generalize hjs : (out.map fun u => keyW (0, u)) = js at each
  have pj : js.Perm ks := by
    rw [← hjs]
    have z := pmo.map fun u => keyW (0, u)
    rw [List.map_map] at z
    exact z.trans pm
  have okj : OneKind js := ok.sub fun k hk => pj.mem_iff.mp hk
  have hlen : js.length = ks.length := pj.length_eq
  have ho1 : out.length = js.length := each.length
  have szb : js.length ≤ sizeLine := by rw [hlen, sizeLine_eq]; unfold scanBound at hz; omega
  refine wpAny_bind (wpAny_newList ?_ (by rw [ho1]; exact szb))
  have hoL : (s1.heap.push (seqObj "list" out.toArray 0)).get? s1.heap.objs.size = some (seqObj "list" out.toArray 0) := Heap.get?_push_size _ rfl
  have er : PySem.W.EachIs (fun v k => ∃ as, Reads (s1.heap.push (seqObj "list" out.toArray 0)) v (keyDat k) as ∧ s1.heap.objs.size ∉ as) out js := each.mono fun v k hk => by
    rcases keyIs_shape (show keyIs k v = true from hk) with ⟨i, t, rfl, rfl⟩ | ⟨x, t, rfl, rfl⟩
    · exact ⟨_, .int i t, List.not_mem_nil⟩
    · exact ⟨_, .str x t, List.not_mem_nil⟩
  refine wpAny_bind (wpAny_holding ?_)
  refine PySem.W.list_sort_data (enc := keyDat) hoL each er (kind_alike okj) (key_sortable js) szb (fun k _ => ?_) fun fin ef each2 => ?_
  · have : (keyDat k).depth = 0 := by cases k <;> rfl
    show X.A.units + 1 + 1 + (keyDat k).depth < cLine
    omega
  · obtain ⟨c, hc2⟩ := sortedHeap_at (vs := out) (out := fin.toArray) hoL
    have e2 : js.mergeSort (PySem.W.dataLe false keyDat) = ks.mergeSort leK := sortK_perm ok pj
    rw [e2] at each2
    have hn : H s1.heap.objs.size = none := I.hok.fresh z1
    have kk : ∀ b u, s.heap.get? b = some u → (sortedHeap (s1.heap.push (seqObj "list" out.toArray 0)) s1.heap.objs.size out fin.toArray).get? b = some u := fun b u e => by
      have z := k1 b u e
      have lt := Heap.lt_size z
      rw [sortedHeap_old (Nat.ne_of_lt lt) (by rw [size_push']; exact Nat.lt_succ_of_lt lt)]
      exact Heap.get?_push_of_some _ z
    have J : Inv X pins σ (upd H s1.heap.objs.size (.lst ((ks.mergeSort leK).map kV))) { s1 with heap := sortedHeap (s1.heap.push (seqObj "list" out.toArray 0)) s1.heap.objs.size out fin.toArray } := by
      have base := I.call (ch := []) (h' := sortedHeap (s1.heap.push (seqObj "list" out.toArray 0)) s1.heap.objs.size out fin.toArray) (g' := s1.gens) (d' := s1.drawn) (t' := s1.toks) (Un.laid kk z1 hn) (I.hok.laid kk z1 (o := .lst ((ks.mergeSort leK).map kV)) ⟨by rw [List.length_map, (List.mergeSort_perm ks leK).length_eq, ← hlen]; exact szb, fin, c, vals_keys each2, hc2⟩) (by rw [g1]; exact I.bare) (fun _ z => nomatch z)
      have e : ({ s1 with heap := sortedHeap (s1.heap.push (seqObj "list" out.toArray 0)) s1.heap.objs.size out fin.toArray } : Shared) = { s with heap := sortedHeap (s1.heap.push (seqObj "list" out.toArray 0)) s1.heap.objs.size out fin.toArray, gens := s1.gens, drawn := s1.drawn, toks := s1.toks } := by
        cases s1
        cases s
        cases o1
        rfl
      rw [e]
      exact base
    exact wpAny_pure ⟨_, rfl, .ref _, _, J, rfl, q _ hn⟩
end
end Dn
namespace Dn
open PySem PySem.Spec PyProof.Rows L2
/-! ### sorted(set(e)), len(set(e)) -/
def sortSetK (v : DV) (r : DEnv) : R (DV × DEnv) := match pk v r with
  | some d => (match setKs d with
    | some ks => .ok (.own (.lst (((dedupK ks).mergeSort leK).map keyDat)), r)
    | none => .stuck)
  | none => .stuck
def lenSetK (v : DV) (r : DEnv) : R (DV × DEnv) := match pk v r with
  | some d => (match setKs d with
    | some ks => .ok (.dat (.int (dedupK ks).length), r)
    | none => .stuck)
  | none => .stuck
def dSortSet (f : DX) : DX := fun r => (opd f r).bind fun p => sortSetK p.1 p.2
def dLenSet (f : DX) : DX := fun r => (opd f r).bind fun p => lenSetK p.1 p.2
theorem dq_keys {G : Hp} : ∀ ks : List Key, DqAll G (ks.map kV) (ks.map keyDat)
  | [] => .nil
  | .inl i :: ks => .cons (.int i) (dq_keys ks)
  | .inr x :: ks => .cons (.str x) (dq_keys ks)
theorem oneKind_dedup {ks : List Key} (h : OneKind ks) : OneKind (dedupK ks) := h.sub fun k hk => (dedup_mem ks).mp hk
section
variable {X : Cx} {W : WX} {p p2 pos pos2 : Pos} {e : Expr} {f : DX}
theorem eSortSet (hc : X.calm = true) (hu : X.A.units + 66 < cLine) (hm : X.mg "sorted" = none) (hm2 : X.mg "set" = none) (he : DE X W e f) (hg : Gl X "sorted" := by rfl) (hg2 : Gl X "set" := by rfl) (na : starEach [e] X.env = (false, eval e X.env) :: starEach [] X.env := by rfl)
    (nb : starEach [.Call (.Name "set" p2) [e] [] pos2] X.env = (false, eval (.Call (.Name "set" p2) [e] [] pos2) X.env) :: starEach [] X.env := by rfl) : DE X W (.Call (.Name "sorted" p) [.Call (.Name "set" p2) [e] [] pos2] [] pos) (dSortSet f) := fun fr T =>
  pe_imp (pe_callB (cr_sortX hc hu) hg hm boot_sorted (pa_cons (pe_callTy (cr_setX hc) hg2 hm2 boot_set (pa_cons (he fr T) pa_nil na) (by decide) (by decide) na rfl) pa_nil nb) (by decide) (by decide) nb rfl) fun s H Q ⟨G, r, rel, o⟩ => by
    refine opd_bindO (g := fun v r1 => sortSetK v r1) (ocX Q) rel o fun G1 r1 v H1 dv m rel1 ov o1 => ?_
    have o1 : out X W fr T G1 s (sortSetK dv r1) Q := o1
    unfold sortSetK at o1
    cases hp : pk dv r1 with
    | none => rw [hp] at o1; exact o1.elim
    | some d =>
      rw [hp] at o1
      dsimp only at o1
      cases hk : setKs d with
      | none => rw [hk] at o1; exact o1.elim
      | some ks =>
        rw [hk] at o1
        refine ⟨G1, v, d, ks, rfl, rel1.sub, opr_of rel1 ov hp, hk, fun q hq => ?_⟩
        refine ⟨q, dedupK ks, rfl, upd_same, oneKind_dedup (setKs_of hk).2.1, fun q2 hq2 => o1 _ _ ?_⟩
        have ex : Ext G1 H1 G1 (upd H1 q (SetWO X.prog X.w q (dedupK ks))) := Ext.beside rel1.sub hq
        exact (rp_lst hq2 (dq_keys _)).post (rel1.ext ex)
theorem eLenSet (hc : X.calm = true) (hm : X.mg "len" = none) (hm2 : X.mg "set" = none) (he : DE X W e f) (hg : Gl X "len" := by rfl) (hg2 : Gl X "set" := by rfl) (na : starEach [e] X.env = (false, eval e X.env) :: starEach [] X.env := by rfl)
    (nb : starEach [.Call (.Name "set" p2) [e] [] pos2] X.env = (false, eval (.Call (.Name "set" p2) [e] [] pos2) X.env) :: starEach [] X.env := by rfl) : DE X W (.Call (.Name "len" p) [.Call (.Name "set" p2) [e] [] pos2] [] pos) (dLenSet f) := fun fr T =>
  pe_imp (pe_callB cr_lenX hg hm boot_len (pa_cons (pe_callTy (cr_setX hc) hg2 hm2 boot_set (pa_cons (he fr T) pa_nil na) (by decide) (by decide) na rfl) pa_nil nb) (by decide) (by decide) nb rfl) fun s H Q ⟨G, r, rel, o⟩ => by
    refine opd_bindO (g := fun v r1 => lenSetK v r1) (ocX Q) rel o fun G1 r1 v H1 dv m rel1 ov o1 => ?_
    have o1 : out X W fr T G1 s (lenSetK dv r1) Q := o1
    unfold lenSetK at o1
    cases hp : pk dv r1 with
    | none => rw [hp] at o1; exact o1.elim
    | some d =>
      rw [hp] at o1
      dsimp only at o1
      cases hk : setKs d with
      | none => rw [hk] at o1; exact o1.elim
      | some ks =>
        rw [hk] at o1
        refine ⟨G1, v, d, ks, rfl, rel1.sub, opr_of rel1 ov hp, hk, fun q hq => ?_⟩
        have ex : Ext G1 H1 G1 (upd H1 q (SetWO X.prog X.w q (dedupK ks))) := Ext.beside rel1.sub hq
        exact ⟨q, dedupK ks, rfl, upd_same, o1 _ _ ⟨G1, .refl _, rel1.ext ex, .int _⟩⟩
end
section
variable {r : DEnv} {E : EX} (f : DX) (Q : DV → DEnv → Prop)
theorem wX_sortSet : wX (dSortSet f) r Q E = wO f r (fun v r1 => optQ (pk v r1) fun d => optQ (setKs d) fun ks => Q (.own (.lst (((dedupK ks).mergeSort leK).map keyDat))) r1) E := by
  unfold wX dSortSet wO
  rw [okQ_bind]
  congr 1
  funext p
  unfold sortSetK
  dsimp only
  cases pk p.1 p.2 with
  | none => rfl
  | some d =>
    show okQ _ E (match setKs d with | some ks => _ | none => _) = optQ (setKs d) _
    cases setKs d <;> rfl
theorem wX_lenSet : wX (dLenSet f) r Q E = wO f r (fun v r1 => optQ (pk v r1) fun d => optQ (setKs d) fun ks => Q (.dat (.int (dedupK ks).length)) r1) E := by
  unfold wX dLenSet wO
  rw [okQ_bind]
  congr 1
  funext p
  unfold lenSetK
  dsimp only
  cases pk p.1 p.2 with
  | none => rfl
  | some d =>
    show okQ _ E (match setKs d with | some ks => _ | none => _) = optQ (setKs d) _
    cases setKs d <;> rfl
end
/-! ### what such a set holds -/
theorem setKs_ints {ns : List Int} {d : PyData} (h : ns.length ≤ 4000) (hd : d = .list (ns.map .int) ∨ d = .tuple (ns.map .int)) : setKs d = some (ns.map .inl) := by
  have key : ∀ d, onQ d = some (ns.map PyData.int) → setKs d = some (ns.map .inl) := fun d hd => by
    unfold setKs
    rw [hd]
    dsimp only
    rw [keysOf_ints]
    dsimp only
    rw [if_pos (by rw [List.length_map]; exact h)]
  rcases hd with rfl | rfl
  · exact key _ rfl
  · exact key _ rfl
theorem setKs_strs {ns : List Str} {d : PyData} (h : ns.length ≤ 4000) (hd : d = .list (ns.map .str) ∨ d = .tuple (ns.map .str)) : setKs d = some (ns.map .inr) := by
  have key : ∀ d, onQ d = some (ns.map PyData.str) → setKs d = some (ns.map .inr) := fun d hd => by
    unfold setKs
    rw [hd]
    dsimp only
    rw [keysOf_strs]
    dsimp only
    rw [if_pos (by rw [List.length_map]; exact h)]
  rcases hd with rfl | rfl
  · exact key _ rfl
  · exact key _ rfl
/-- the texts of xs, each once, in order -/
def uniqS (xs : List Str) : List Str := ((dedupK (xs.map .inr)).map unS).mergeSort leS
def uniqI (ns : List Int) : List Int := ((dedupK (ns.map .inl)).map unI).mergeSort leI
theorem sortSet_strs (xs : List Str) : ((dedupK (xs.map .inr)).mergeSort leK).map keyDat = (uniqS xs).map .str := by
  have h : ∀ k, k ∈ dedupK (xs.map Sum.inr) → ∃ x, k = Sum.inr x := fun k hk => by
    obtain ⟨x, _, rfl⟩ := List.mem_map.mp ((dedup_mem _).mp hk)
    exact ⟨x, rfl⟩
  rw [strs_form h, sortK_strs, List.map_map]
  unfold uniqS
  rfl
theorem sortSet_ints (xs : List Int) : ((dedupK (xs.map .inl)).mergeSort leK).map keyDat = (uniqI xs).map .int := by
  have h : ∀ k, k ∈ dedupK (xs.map Sum.inl) → ∃ x, k = Sum.inl x := fun k hk => by
    obtain ⟨x, _, rfl⟩ := List.mem_map.mp ((dedup_mem _).mp hk)
    exact ⟨x, rfl⟩
  rw [ints_form h, sortK_ints, List.map_map]
  unfold uniqI
  rfl
end Dn
namespace Dn
open PySem PySem.Spec PyProof.Rows L2
/-! ### {elt for .. in .. if ..}, elt an int or a text -/
section
variable {X : Cx}
theorem addX {pins : List (Addr × Obj)} {σ : L2.St} {H : Hp} {s : Shared} {E : Value → Shared → Prop} {D : Addr} {ks : List Key} {k : Key} {v : Value} {Q : Value → Shared → Prop} (I : Inv X pins σ H s) (hD : H D = some (SetWO X.prog X.w D ks)) (room : ks.length + 1 < scanBound) (rv : RelV (kV k) v)
    (h : ∀ s', Inv X pins σ (upd H D (SetWO X.prog X.w D (plusK ks k))) s' → Q .none s') : wpAny (model X.prog X.w) X.A (call (.builtin "set.add") [.ref D, v]) Q E s := by
  have hs := setWO_get I hD
  have ty : s.TypeIs (.ref D) "set" := by
    obtain ⟨o, _, _, _, ho, hex, _⟩ := hs
    exact ⟨o, ho, hex.1⟩
  refine wpAny_call_entry F.slot_set_add ty F.entry_set_add ?_ (F.args_set_add_2 _ _)
  unfold Builtin.«set.add» Builtin.Frozenset.oneOther
  simp only [List.isEmpty_nil, bind_assoc]
  unfold Builtin.Frozenset.addrOf setAdd
  refine wpAny_bind (wpAny_pure ?_)
  try dsimp only
  refine wpAny_bind (wpAny_pure ?_)
  try dsimp only
  refine wpAny_bind (wpAny_holding (wpAny_bind ((mixKind X.prog X.w).pyHash (kV_is rv) ?_)))
  refine addW_hashed (s := { s with toks := s.toks + 1 }) (kV_is rv) (key_scan rv) hs room fun h' sb new b => ?_
  show wpAny _ _ (ret Value.none) _ _ _
  refine wpAny_pure ⟨_, rfl, h _ ?_⟩
  have he : ∃ u, h'.get? D = some u := by
    have ⟨o, _, _, _, ho, _⟩ := new
    exact ⟨o, ho⟩
  exact I.write (e := D) (t' := s.toks + 1) (by rw [hD]; trivial) (.inl rfl) (fun c u hc hu => (sb.2 c hc).trans hu) he (setWO_new new)
/-- D the new set -/
def tScX (P : Program) (w : World) (wi : TI) (g : TG) (tt : TT) (te : TE) (vs : List Nat) : TE := fun σ H Q => wi σ H fun J H1 => ∀ D, H1 D = none → ∃ M : Nat → Nat → Hp → Prop, (∃ m, M 0 m (upd H1 D (SetWO P w D []))) ∧ ∀ i m H, M i m H →
  (J.stop i H ∧ Q (.ref D) H) ∨ (J.go i H ∧ ∃ Nx : Hp → Prop, (∀ H', Nx H' → ∃ m', m' < m ∧ M (i + 1) m' H') ∧ ∀ x H', J.yld i H x H' → g x (wipe σ vs) H' fun σ2 H2 => wipe σ2 vs = wipe σ vs ∧ tt σ2 H2 fun b H3 =>
    if b = true then te σ2 H3 fun y H4 => ∃ (k : Key) (ks : List Key), y = kV k ∧ H4 D = some (SetWO P w D ks) ∧ ks.length + 1 < scanBound ∧ Nx (upd H4 D (SetWO P w D (plusK ks k))) else Nx H3)
theorem pe_scX {elt tg iter : Expr} {ifs : List Expr} {scope : Scope} {own : List (PySem.Str × Nat)} {pos : Pos} {wi : TI} {g : TG} {tt : TT} {te : TE} (hc : X.calm = true) (hN : X.N.Nodup) (hi : PI X tg iter wi) (ok : BlkOk X.N X.env.scope scope own)
    (hg : ∀ (s : Shared) (H : Hp) (C : Addr) (cl : List (PySem.Str × Addr)) (fp : List Addr), PG (X.blk s H scope (compEnvC scope cl C X.env) fp) tg g) (ht : ∀ (s : Shared) (H : Hp) (C : Addr) (cl : List (PySem.Str × Addr)) (fp : List Addr), PTs (X.blk s H scope (compEnvC scope cl C X.env) fp) ifs tt)
    (he : ∀ (s : Shared) (H : Hp) (C : Addr) (cl : List (PySem.Str × Addr)) (fp : List Addr), PE (X.blk s H scope (compEnvC scope cl C X.env) fp) elt te) (hs : ∀ x, foldedSetIterable iter X.env x = pure x) :
    PE X (.SetComp elt [⟨tg, iter, ifs, 0⟩] scope pos) (tScX X.prog X.w wi g tt te (own.map (·.2))) := by
  refine ⟨fun pins s σ H Q I h => ?_⟩
  rw [PpSet.eval_SetComp]
  have fr0 : ∀ y ∈ scope.names, y.2 = .free → ∃ c, X.env.cells.lookup y.1 = some c := fun y hy e => (ok.free y hy e).elim (fun z => I.ok.has _ (.inl z)) fun z => I.ok.has _ (.inr z)
  refine wpAny_comprehension_free (use := none) rfl hs (closure_ok fr0) ok.kind (fun y hy e => by rw [ok.uniq y hy, e]) (thn (hi.run pins s σ H _ I h) fun xv s1 hx => thn hx fun itv s2 h2 => ?_)
  obtain ⟨it, fp, tn, J, H2, e, I2, T, st2, f2, q⟩ := h2
  subst e
  refine PpSet.newSet_ok (newEnv_comp ?_)
  generalize eD : s2.heap.objs.size = D
  have nD : H2 D = none := I2.hok.fresh (Nat.le_of_eq eD)
  obtain ⟨M, ⟨m0, w0⟩, turn⟩ := q D nD
  generalize e3 : ({ s2 with heap := s2.heap.push (setNo X.w) } : Shared) = s3
  have I3 : Inv X pins σ (upd H2 D (SetWO X.prog X.w D [])) s3 := by
    rw [← e3]
    refine I2.laid (t' := s2.toks) (fun b o z => Heap.get?_push_of_some _ z) (Nat.le_of_eq eD) ?_
    rw [← eD]
    exact setWO_new (setW_none (Heap.get?_push_size _ rfl))
  have h3 : s3.heap = s2.heap.push (setNo X.w) := by rw [← e3]
  have sz : ∀ b, b ∈ fp → b < s2.heap.objs.size := fun b hb => let ⟨o, z, _⟩ := T.obj _ _ st2 b hb; Heap.lt_size z
  have f3 : ∀ b ∈ fp, FpOk X pins (upd H2 D (SetWO X.prog X.w D [])) b ∧ b < s3.heap.objs.size := fun b hb => by
    have lt := sz b hb
    refine ⟨⟨?_, (f2 b hb).2⟩, by rw [h3, Heap.size_push]; exact Nat.lt_succ_of_lt lt⟩
    rw [upd_ne (by rw [← eD]; exact Nat.ne_of_lt lt)]
    exact (f2 b hb).1
  have st3 : tn 0 s3.heap := T.keep _ _ _ st2 fun b _ o z => by rw [h3]; exact Heap.get?_push_of_some _ z
  have I4 := block_start I3 ok hN f3
  have pg := hg s3 (upd H2 D (SetWO X.prog X.w D [])) s3.heap.objs.size (cellsFrom (s3.heap.objs.size + 1) scope.names (cloFrom X.env.cells scope.names [])) fp
  have pt := ht s3 (upd H2 D (SetWO X.prog X.w D [])) s3.heap.objs.size (cellsFrom (s3.heap.objs.size + 1) scope.names (cloFrom X.env.cells scope.names [])) fp
  have pe := he s3 (upd H2 D (SetWO X.prog X.w D [])) s3.heap.objs.size (cellsFrom (s3.heap.objs.size + 1) scope.names (cloFrom X.env.cells scope.names [])) fp
  have nfp : ∀ b ∈ fp, (upd H2 D (SetWO X.prog X.w D [])) b = none := fun b hb => (f3 b hb).1.1
  have e3' : ({ s2 with heap := s2.heap.push { cls := .type "set", dict := none, data := .set #[] 0 (.fresh 0 0 (!X.w.params.followText "set-order")) } } : Shared) = s3 := e3
  rw [e3']
  show codeAny _ _ (.compStart (.SetComp elt [⟨tg, iter, ifs, 0⟩] scope pos) 0 (.ref it) (.ref D) (compEnvC scope (cellsFrom (s3.heap.objs.size + 1) scope.names (cloFrom X.env.cells scope.names [])) s3.heap.objs.size X.env))
    (compPost (model X.prog X.w) X.A X.xe none (EP X pins σ Q) (.ref D) s3.heap.objs.size) { s3 with heap := pushCells (s3.heap.push { cls := .type "dict", data := .dict #[] }) scope.names }
  generalize ece : compEnvC scope (cellsFrom (s3.heap.objs.size + 1) scope.names (cloFrom X.env.cells scope.names [])) s3.heap.objs.size X.env = ce at I4 pg pt pe ⊢
  have cL : ce.locals = s3.heap.objs.size := by subst ece; rfl
  generalize eH : upd H2 D (SetWO X.prog X.w D []) = H3 at I3 I4 pg pt pe w0 nfp f3
  generalize e4 : ({ s3 with heap := pushCells (s3.heap.push { cls := .type "dict", data := .dict #[] }) scope.names } : Shared) = s4 at I4 ⊢
  have st4 : tn 0 s4.heap := T.keep _ _ _ st3 fun b _ o z => by rw [← e4]; exact pushCells_keeps _ _ _ _ (Heap.get?_push_of_some _ z)
  have stat : ∀ {σ' : L2.St} {H' : Hp} {s' : Shared}, Inv (X.blk s3 H3 scope ce fp) [] σ' H' s' → (∀ b ∈ fp, H' b = none) → ∀ b ∈ fp, FpOk (X.blk s3 H3 scope ce fp) [] H' b := fun {σ' H' s'} I' hn b hb =>
    ⟨hn b hb, (I'.ok.exf b hb).1, I'.ok.exfs b hb, .inl hb, fun x c z => (I'.ok.exf b hb).2 x c z, fun p hp => absurd (show p ∈ ([] : List (Addr × Obj)) ++ [] from hp) (by simp)⟩
  have loop : codeAny (model X.prog X.w) X.A (.compLoop (.SetComp elt [⟨tg, iter, ifs, 0⟩] scope pos) 0 (.ref it) (.ref D) ce) (compPost (model X.prog X.w) X.A X.xe none (EP X pins σ Q) (.ref D) s3.heap.objs.size) s4 := by
    refine PpSet.compLoopS_any (fun n s' => ∃ i H', Inv (X.blk s3 H3 scope ce fp) [] (wipe σ (own.map (·.2))) H' s' ∧ tn i s'.heap ∧ (∀ b ∈ fp, H' b = none) ∧ M i n H') ?_ m0 ⟨0, H3, I4, st4, nfp, w0⟩
    rintro n s5 ⟨i, H5, I5, st5, n5, w5⟩
    rcases turn i n H5 w5 with ⟨stp, qq⟩ | ⟨go, Nx, hNx, step⟩
    · refine thnF (T.done (X.blk s3 H3 scope ce fp) rfl rfl rfl hc i [] s5 _ H5 (fun _ _ => False) I5 (stat I5 n5) st5 stp) fun r s6 ⟨hr, I6⟩ => ?_
      subst hr
      have I7 : Inv X pins σ H5 s6 := I3.call' (ch := fp) I6.os I6.base I6.hok I6.bare fun b hb => ⟨(f3 b hb).1.2.2.2.1, (f3 b hb).1.2.1, (f3 b hb).1.2.2.2.2.1, (f3 b hb).1.2.2.2.2.2⟩
      have nC : H5 s3.heap.objs.size = none := by rw [← cL]; exact I6.free
      obtain ⟨mm, hn, _⟩ := I6.loc
      have hn : s6.heap.Ns ce.locals mm := hn
      rw [cL] at hn
      obtain ⟨f0, f1, f2', f3', f4, f5⟩ := I3.fpOk (Nat.le_refl _) nC
      exact ⟨mm, hn, fun h'' sb => ⟨.ref D, H5, I7.turned (t' := s6.toks) (fun b o hb z => (sb.2 b hb).trans z) f0 f1 f3' f4 f5, rfl, qq⟩⟩
    · refine thnF (T.item (X.blk s3 H3 scope ce fp) rfl rfl rfl hc i [] s5 _ H5 (fun _ _ => False) I5 (stat I5 n5) st5 go) fun r s6 ⟨u, hr, h6⟩ => ?_
      subst hr
      refine thnF h6 fun _ s7 ⟨x, H7, I7, r7, y7, st7, n7⟩ => ?_
      have I7' := I7.pinned (stat I7 n7) (T.obj _ _ st7)
      refine thnF (pg.run _ s7 _ H7 x u _ I7' r7 (step x H7 y7)) fun _ s8 ⟨σ8, H8, I8, hw8, q8⟩ => ?_
      refine thnF (pt.run _ s8 σ8 H8 _ I8 q8) fun b s9 ⟨H9, I9, q9⟩ => ?_
      have fin : ∀ {s' : Shared} {H' : Hp}, Inv (X.blk s3 H3 scope ce fp) ([] ++ pinsAt fp s7.heap) σ8 H' s' → Nx H' → ∃ m, m < n ∧ ∃ i H', Inv (X.blk s3 H3 scope ce fp) [] (wipe σ (own.map (·.2))) H' s' ∧ tn i s'.heap ∧ (∀ b ∈ fp, H' b = none) ∧ M i m H' := fun {s' H'} I' nx => by
        obtain ⟨m', hm, w'⟩ := hNx H' nx
        have pin' : ∀ b, b ∈ fp → ∀ o, s7.heap.get? b = some o → s'.heap.get? b = some o ∧ H' b = none := fun b hb o z =>
          let y := I'.pin (b, o) (List.mem_append_right _ (List.mem_append_right _ (mem_pinsAt hb z)))
          ⟨y.1, y.2.1⟩
        have hl : (wipe σ (own.map (·.2))).length = σ8.length := by rw [← hw8, wipe_length]
        refine ⟨m', hm, i + 1, H', (I'.unpinned (pins := [])).weak hl (fun j v z => ?_), T.keep _ _ _ st7 fun b hb o z => (pin' b hb o z).1, fun b hb => ?_, w'⟩
        · rw [← hw8] at z
          exact (wipe_some z).1
        · obtain ⟨o, z, _⟩ := T.obj _ _ st7 b hb
          exact (pin' b hb o z).2
      cases b with
      | false =>
        simp only [Bool.false_eq_true, if_false] at q9 ⊢
        exact fin I9 q9
      | true =>
        simp only [if_true] at q9 ⊢
        refine thnF (pe.run _ s9 σ8 H9 _ I9 q9) fun z s10 ⟨yv, H10, I10, r10, k, ks, ey, hD10, hz10, nx⟩ => ?_
        subst ey
        exact addX (X := X.blk s3 H3 scope ce fp) I10 hD10 hz10 r10 fun s11 I11 => fin I11 nx
  exact PpSet.codeAny_compStart_set loop (T.self X.A 0 _ _ _ st4 loop)
end
/-! ### a set beside the frame -/
def Fm.wD (fr : Fm) (D : Addr) (o : HO) : Fm := ⟨fr.G, upd fr.H D o, fr.own⟩
section
variable {K : PySem.W.Frag} {mg : Str → Option Value} {fr : Fm} {T : List (Addr × Ob)} {G : Hp} {r : DEnv} {s : L2.St} {H : Hp} {D : Addr} {φ ψ : Heap → Prop}
theorem hoOk_ext {ho : HO} {o : Ob} (h : HoOk G ho o) : ho ≠ .ext φ := fun e => by
  cases o with
  | lst ds => obtain ⟨vs, e2, _⟩ := h; rw [e2] at e; cases e
  | dic kvs =>
    obtain ⟨ks, e2, _⟩ := h
    rw [e2] at e; cases e
theorem Rel.inD (h : Rel K mg fr T G r s H) (hD : H D = some (.ext φ)) (hG : G D = none) : Rel K mg (fr.wD D (.ext φ)) T G r s H where
  sub := h.sub
  g0 := h.g0
  new := fun a z q => by
    by_cases e : a = D
    · subst e; exact absurd hG q
    · have z : upd fr.H D (.ext φ) a ≠ none := z
      rw [upd_ne e] at z
      exact h.new a z q
  keep := fun a o z hx => by
    have z : upd fr.H D (.ext φ) a = some o := z
    by_cases e : a = D
    · subst e; rw [upd_same] at z; cases z; exact hD
    · rw [upd_ne e] at z; exact h.keep a o z hx
  exs := h.exs
  len := h.len
  slot := h.slot
  home := fun i b o a z1 z2 => (h.home i b o a z1 z2).imp (fun z => ⟨z.1, by
    obtain ⟨v, ev, c, ec, g, ho, hh, q⟩ := h.slot i _ z1
    rw [z2] at ev
    have e3 : V.ref a = v := by injection ev with ev; injection ev
    rw [← e3] at ec
    injection ec with ec
    subst ec
    have ne : a ≠ D := fun e => by subst e; rw [hD] at hh; injection hh with hh; exact hoOk_ext q hh.symm
    show upd fr.H D (.ext φ) a = none
    rw [upd_ne ne]; exact z.2⟩) id
  apart := h.apart
  tmp := fun t ht => ⟨(h.tmp t ht).1, by
    obtain ⟨⟨g, ho, hh, q⟩, f⟩ := h.tmp t ht
    have ne : t.1 ≠ D := fun e => by rw [e, hD] at hh; injection hh with hh; exact hoOk_ext q hh.symm
    show upd fr.H D (.ext φ) t.1 = none
    rw [upd_ne ne]; exact f⟩
  tapart := h.tapart
  tnd := h.tnd
theorem Rel.outD (h : Rel K mg (fr.wD D (.ext φ)) T G r s H) (hf : fr.H D = none) : Rel K mg fr T G r s H where
  sub := h.sub
  g0 := h.g0
  new := fun a z q => h.new a (by
    show upd fr.H D (.ext φ) a ≠ none
    by_cases e : a = D
    · subst e; exact absurd hf z
    · rw [upd_ne e]; exact z) q
  keep := fun a o z hx => h.keep a o (by
    show upd fr.H D (.ext φ) a = some o
    rw [upd_ne (ne_of_none z hf)]; exact z) hx
  exs := h.exs
  len := h.len
  slot := h.slot
  home := fun i b o a z1 z2 => (h.home i b o a z1 z2).imp (fun z => ⟨z.1, by
    have z3 : upd fr.H D (.ext φ) a = none := z.2
    by_cases e : a = D
    · rw [e]; exact hf
    · rw [upd_ne e] at z3; exact z3⟩) id
  apart := h.apart
  tmp := fun t ht => ⟨(h.tmp t ht).1, by
    have z3 : upd fr.H D (.ext φ) t.1 = none := (h.tmp t ht).2
    by_cases e : t.1 = D
    · rw [e]; exact hf
    · rw [upd_ne e] at z3; exact z3⟩
  tapart := h.tapart
  tnd := h.tnd
/-- the object at D stands -/
theorem Rel.atD (h : Rel K mg (fr.wD D (.ext φ)) T G r s H) (hx : D ∉ fr.ex) : H D = some (.ext φ) := h.keep D _ upd_same hx
theorem Rel.groundD (h : Rel K mg (fr.wD D (.ext φ)) T G r s H) (hg : fr.G D = none) : G D = none := by
  cases z : G D with
  | none => rfl
  | some o => exact absurd hg (h.new D (by show upd fr.H D (.ext φ) D ≠ none; rw [upd_same]; exact Option.some_ne_none _) (ne_none_of z))
theorem Rel.writeD (h : Rel K mg fr T G r s H) (hD : H D = some (.ext φ)) (hG : G D = none) (hf : fr.H D = none) : Rel K mg fr T G r s (upd H D (.ext ψ)) where
  sub := fun b u e => by rw [upd_ne (ne_of_none e hG)]; exact h.sub b u e
  g0 := h.g0
  new := h.new
  keep := fun a o z hx => by rw [upd_ne (ne_of_none z hf)]; exact h.keep a o z hx
  exs := fun a hx => by
    by_cases e : a = D
    · subst e; rw [upd_same]; exact Option.some_ne_none _
    · rw [upd_ne e]; exact h.exs a hx
  len := h.len
  slot := fun i sl z => by
    obtain ⟨v, ev, q⟩ := h.slot i sl z
    refine ⟨v, ev, ?_⟩
    cases sl with
    | dat d => exact q
    | fn f => exact q
    | scr ns => exact q
    | own b o =>
      obtain ⟨c, ec, g, ho, hh, q⟩ := q
      have ne : c ≠ D := fun e => by subst e; rw [hD] at hh; injection hh with hh; exact hoOk_ext q hh.symm
      exact ⟨c, ec, g, ho, by rw [upd_ne ne]; exact hh, q⟩
  home := h.home
  apart := h.apart
  tmp := fun t ht => by
    obtain ⟨⟨g, ho, hh, q⟩, f⟩ := h.tmp t ht
    have ne : t.1 ≠ D := fun e => by rw [e, hD] at hh; injection hh with hh; exact hoOk_ext q hh.symm
    exact ⟨⟨g, ho, by rw [upd_ne ne]; exact hh, q⟩, f⟩
  tapart := h.tapart
  tnd := h.tnd
end
/-! ### sorted({..}) -/
def scK (p : Pat) (t : DT) (e : DX) (vs : List Nat) (ds : List PyData) (r : DEnv) : R (DV × DEnv) :=
  if ownFree r vs = true ∧ ds.length ≤ 4000 then (match lcL p t e vs ds (wipeD r vs) with
    | .ok (ys, r2) => (match keysOf ys with
      | some ks => .ok (.own (.lst (((dedupK ks).mergeSort leK).map keyDat)), restoreD vs r r2)
      | none => .stuck)
    | _ => .stuck) else .stuck
def dSortSc (it : DI) (p : Pat) (t : DT) (e : DX) (vs : List Nat) : DX := fun r => (it r).bind fun q => scK p t e vs q.1 q.2
theorem keyDat_key {G : Hp} {v : V} {k : Key} (h : Dq G v (keyDat k)) : v = kV k := by
  cases k with
  | inl i => cases h; rfl
  | inr x => cases h; rfl
section
variable {X : Cx} {W : WX} {fr : Fm} {T : List (Addr × Ob)} {s : L2.St} {H : Hp}
theorem map_split {ks : List Key} {acc rest : List PyData} {y : PyData} (h : ks.map keyDat = acc ++ y :: rest) : ∃ k, y = keyDat k ∧ acc = (ks.take acc.length).map keyDat ∧ ks.take (acc.length + 1) = ks.take acc.length ++ [k] := by
  have hl : acc.length < ks.length := by
    have z := congrArg List.length h
    rw [List.length_map, List.length_append, List.length_cons] at z
    omega
  refine ⟨ks[acc.length], ?_, ?_, ?_⟩
  · have z := congrArg (fun l => l[acc.length]?) h
    rw [List.getElem?_map, List.getElem?_eq_getElem hl, List.getElem?_append_right (Nat.le_refl _), Nat.sub_self] at z
    exact (Option.some.inj z).symm
  · have z := congrArg (List.take acc.length) h
    rw [List.take_left, ← List.map_take] at z
    exact z.symm
  · rw [List.take_add_one, List.getElem?_eq_getElem hl]
    rfl
theorem sc_run {it : DI} {p : Pat} {t : DT} {e : DX} {vs : List Nat} {Q : VK} (hv : ∀ i, i ∈ p.sl → i ∈ vs) (h : tD X W fr T (dSortSc it p t e vs) s H Q) : tScX X.prog X.w (tDI X W fr T it) (tDGe X p) (tDTe X t) (tDe X e) vs s H fun x H1 => rSortX X.prog X.w [x] H1 Q := by
  obtain ⟨G, r, rel, o⟩ := h
  refine di_bindO (g := fun ds r1 => scK p t e vs ds r1) (ocX Q) rel o fun G1 r1 J H1 ds m rel1 walk o1 => fun D hD => ?_
  have o1 : out X W fr T G1 s (scK p t e vs ds r1) Q := o1
  unfold scK at o1
  split at o1
  case isFalse => exact o1.elim
  rename_i hc
  obtain ⟨hfree, hsz⟩ := hc
  cases hl : lcL p t e vs ds (wipeD r1 vs) with
  | stuck => rw [hl] at o1; exact o1.elim
  | exc _ _ _ => rw [hl] at o1; exact o1.elim
  | ok z =>
    obtain ⟨res, rend⟩ := z
    rw [hl] at o1
    dsimp only at o1
    cases hk : keysOf res with
    | none => rw [hk] at o1; exact o1.elim
    | some ks =>
      rw [hk] at o1
      obtain ⟨eres, one⟩ := keysOf_map hk
      have frD : fr.H D = none := rel1.free hD
      have gD : G1 D = none := rel1.sameAt hD
      have exD : D ∉ fr.ex := fun z => rel1.exs D z hD
      have start : Rel X.K X.mg fr T G1 (wipeD r1 vs) (wipe s vs) (upd H1 D (SetWO X.prog X.w D [])) := (rel1.wipe vs).ext (Ext.beside rel1.sub hD)
      refine ⟨fun i m Hc => i ≤ ds.length ∧ m = ds.length - i ∧ ∃ G' q acc, Same G1 G' ∧ G' D = none ∧ Hc D = some (SetWO X.prog X.w D (dedupK (ks.take acc.length))) ∧ Rel X.K X.mg fr T G' q (wipe s vs) Hc ∧ acc.length ≤ i ∧ ∃ rest, lcL p t e vs (ds.drop i) q = .ok (rest, rend) ∧ res = acc ++ rest,
        ⟨ds.length, Nat.zero_le _, rfl, G1, wipeD r1 vs, [], .refl _, gD, upd_same, start, Nat.le_refl _, res, hl, rfl⟩, ?_⟩
      rintro i m Hc ⟨hi, rfl, G', q, acc, m1, g1, hDc, relc, hacc, rest, hrest, hres⟩
      have sub1 : Same G1 Hc := m1.trans relc.sub
      by_cases hlt : i < ds.length
      · refine .inr ⟨walk.goes i Hc sub1 hlt, fun Hn => i + 1 ≤ ds.length ∧ ∃ G' q acc, Same G1 G' ∧ G' D = none ∧ Hn D = some (SetWO X.prog X.w D (dedupK (ks.take acc.length))) ∧ Rel X.K X.mg fr T G' q (wipe s vs) Hn ∧ acc.length ≤ i + 1 ∧ ∃ rest, lcL p t e vs (ds.drop (i + 1)) q = .ok (rest, rend) ∧ res = acc ++ rest,
          fun Hn ⟨z1, z2⟩ => ⟨ds.length - (i + 1), by omega, z1, rfl, z2⟩, fun x H' y => ?_⟩
        have hd : ds.drop i = ds[i] :: ds.drop (i + 1) := List.drop_eq_getElem_cons hlt
        have relw : Rel X.K X.mg (fr.wD D (SetWO X.prog X.w D (dedupK (ks.take acc.length)))) T G' q (wipe s vs) Hc := relc.inD hDc g1
        obtain ⟨Gx, mx, relx, dx⟩ := yd_rel relw m1 (walk.yields i Hc x H' ds[i] sub1 y (List.getElem?_eq_getElem hlt))
        generalize hfw : fr.wD D (SetWO X.prog X.w D (dedupK (ks.take acc.length))) = fw at relx
        have gw0 : fr.G D = none := by
          cases z : fr.G D with
          | none => rfl
          | some o => rw [rel1.g0 _ _ z] at gD; cases gD
        have back : ∀ {G q s' H}, Rel X.K X.mg fw T G q s' H → G D = none ∧ H D = some (SetWO X.prog X.w D (dedupK (ks.take acc.length))) ∧ Rel X.K X.mg fr T G q s' H := fun z => by
          rw [← hfw] at z
          exact ⟨z.groundD gw0, z.atD exD, z.outD frD⟩
        rw [hd] at hrest
        unfold lcL at hrest
        cases hp : p.f ds[i] q with
        | none => rw [hp] at hrest; cases hrest
        | some q1 =>
          rw [hp] at hrest
          dsimp only at hrest
          refine ⟨fw, T, Gx, q, ds[i], q1, relx, dx, hp, fun s' rel' hw => ⟨(hw vs hv).trans wipe_wipe, ?_⟩⟩
          have hws : wipe s' vs = wipe s vs := (hw vs hv).trans wipe_wipe
          refine ⟨fw, T, Gx, q1, rel', ?_⟩
          cases ht : t q1 with
          | stuck => rw [ht] at hrest; cases hrest
          | exc _ _ _ => rw [ht] at hrest; cases hrest
          | ok z =>
            obtain ⟨b, q2⟩ := z
            rw [ht] at hrest
            intro H3 ⟨G3, m3, rel3⟩
            have m13 : Same G1 G3 := m1.trans (mx.trans m3)
            cases b with
            | false =>
              obtain ⟨b1, b2, b3⟩ := back rel3
              refine iteF ⟨by omega, G3, wipeD q2 vs, acc, m13, b1, b2, ?_, by omega, rest, hrest, hres⟩
              have z := b3.wipe vs
              rw [hws] at z
              exact z
            | true =>
              refine iteT ⟨fw, T, G3, q2, rel3, ?_⟩
              dsimp only at hrest
              cases he : e q2 with
              | stuck =>
                have hz : frzE e q2 = .stuck := by unfold frzE; rw [he]; rfl
                rw [hz] at hrest; cases hrest
              | exc c fs r' =>
                have hz : frzE e q2 = .exc c fs r' := by unfold frzE; rw [he]; rfl
                rw [hz] at hrest; cases hrest
              | ok z =>
                obtain ⟨dv, q3⟩ := z
                have hz : frzE e q2 = (match frz dv q3 with
                  | some q => .ok q
                  | none => .stuck) := by unfold frzE; rw [he]; rfl
                intro y' H4 hpost
                cases hfz : frz dv q3 with
                | none => rw [hz, hfz] at hrest; cases hrest
                | some z =>
                  obtain ⟨dy, q4⟩ := z
                  rw [hz, hfz] at hrest
                  dsimp only at hrest
                  obtain ⟨G4, m4, rel4, dq4⟩ := frz_ok hpost hfz
                  cases hl2 : lcL p t e vs (ds.drop (i + 1)) (wipeD q4 vs) with
                  | stuck => rw [hl2] at hrest; cases hrest
                  | exc _ _ _ => rw [hl2] at hrest; cases hrest
                  | ok z =>
                    obtain ⟨ys, q5⟩ := z
                    rw [hl2] at hrest
                    cases hrest
                    obtain ⟨k, ek, _, etake⟩ := map_split (ks := ks) (eres.symm.trans hres)
                    rw [ek] at dq4
                    obtain ⟨b1, b2, b3⟩ := back rel4
                    have rest2 : res = (acc ++ [dy]) ++ ys := by rw [hres, List.append_assoc]; rfl
                    have hlen2 : (acc ++ [dy]).length = acc.length + 1 := by rw [List.length_append]; rfl
                    refine ⟨k, dedupK (ks.take acc.length), keyDat_key dq4, b2, ?_, by omega, G4, wipeD q4 vs, acc ++ [dy], m13.trans m4, b1, ?_, ?_, by omega, ys, hl2, rest2⟩
                    · have z1 := dedup_len (ks.take acc.length)
                      have z2 : (ks.take acc.length).length ≤ acc.length := by rw [List.length_take]; omega
                      unfold scanBound
                      omega
                    · rw [upd_same, hlen2, etake, dedup_step]
                    · have z := (b3.writeD (ψ := fun h => SetW X.prog X.w h D (plusK (dedupK (ks.take acc.length)) k)) b2 b1 frD).wipe vs
                      rw [hws] at z
                      exact z
      · have e1 : i = ds.length := by omega
        subst e1
        rw [List.drop_length] at hrest
        cases hrest
        rw [List.append_nil] at hres
        subst hres
        refine .inl ⟨walk.stops Hc sub1, D, dedupK ks, rfl, ?_, oneKind_dedup one, fun q2 hq2 => o1 _ _ ?_⟩
        · rw [hDc, List.take_of_length_le]
          rw [eres, List.length_map]
          exact Nat.le_refl _
        · have rr := rel1.restore hfree m1 relc
          exact (rp_lst hq2 (dq_keys _)).post rr |>.mono m1
theorem eSortSc {elt tg iter : Expr} {ifs : List Expr} {scope : Scope} {own : List (Str × Nat)} {it : DI} {q : Pat} {t : DT} {f : DX} {p pos pos2 : Pos} (hc : X.calm = true) (hu : X.A.units + 66 < cLine) (hm : X.mg "sorted" = none) (hN : X.N.Nodup) (ok : blkC X.N X.env.scope scope own = true) (hi : DIt X W tg iter it)
    (h : ∀ (s : Shared) (H : Hp) (C : Addr) (cl : List (Str × Addr)) (fp : List Addr), DGt (X.blk s H scope (compEnvC scope cl C X.env) fp) tg q ∧ DTs (X.blk s H scope (compEnvC scope cl C X.env) fp) ifs t ∧ DE (X.blk s H scope (compEnvC scope cl C X.env) fp) W0 elt f)
    (hg : Gl X "sorted" := by rfl) (hv : (q.sl.all fun i => (own.map (·.2)).contains i) = true := by rfl) (hs : ∀ x, foldedSetIterable iter X.env x = pure x := by intro _; rfl)
    (nb : starEach [.SetComp elt [⟨tg, iter, ifs, 0⟩] scope pos2] X.env = (false, eval (.SetComp elt [⟨tg, iter, ifs, 0⟩] scope pos2) X.env) :: starEach [] X.env := by rfl) :
    DE X W (.Call (.Name "sorted" p) [.SetComp elt [⟨tg, iter, ifs, 0⟩] scope pos2] [] pos) (dSortSc it q t f (own.map (·.2))) := fun fr T =>
  pe_imp (pe_callB (cr_sortX hc hu) hg hm boot_sorted (pa_cons (pe_scX hc hN (hi fr T) (blkOk_by ok) (fun s H C cl fp => pg_any (h s H C cl fp).1) (tt := tDTe X t) (fun s H C cl fp => (h s H C cl fp).2.1) (fun s H C cl fp => pe_any (h s H C cl fp).2.2) hs) pa_nil nb) (by decide) (by decide) nb rfl)
    fun s H Q w => sc_run (fun i hi => by simpa using List.all_eq_true.mp hv i hi) w
end
section
variable {r : DEnv} {E : EX}
theorem wX_sortSc (it : DI) (p : Pat) (t : DT) (e : DX) (vs : List Nat) (Q : DV → DEnv → Prop) : wX (dSortSc it p t e vs) r Q E = wI it r (fun ds r1 => ownFree r1 vs = true ∧ ds.length ≤ 4000 ∧ wM p t e vs ds (wipeD r1 vs) fun ys r2 => optQ (keysOf ys) fun ks => Q (.own (.lst (((dedupK ks).mergeSort leK).map keyDat))) (restoreD vs r1 r2)) E := by
  unfold wX dSortSc wI
  rw [okQ_bind]
  congr 1
  funext q
  unfold scK
  dsimp only
  by_cases h : ownFree q.2 vs = true ∧ q.1.length ≤ 4000
  · rw [if_pos h, eq_true h.1, eq_true h.2, true_and, true_and]
    unfold wM
    cases lcL p t e vs q.1 (wipeD q.2 vs) with
    | ok z =>
      dsimp only
      show okQ _ E (match keysOf z.1 with | some ks => _ | none => _) = optQ (keysOf z.1) _
      cases keysOf z.1 <;> rfl
    | exc _ _ _ => rfl
    | stuck => rfl
  · rw [if_neg h]
    refine propext ⟨fun z => z.elim, fun ⟨a, b, _⟩ => h ⟨a, b⟩⟩
end
end Dn
namespace Dn
open PySem PySem.Spec PyProof.Rows L2
/-! ### data that can be compared, shown -/
structure Fine (n w : Nat) (x : PyData) : Prop where
  l : x.canLay0 = true
  d : x.depth ≤ n
  s : x.showable = true
  b : x.leavesShort 80 = true
  w : x.weight ≤ w
structure FineL (n w : Nat) (ds : List PyData) : Prop where
  l : PyData.canLayAll0 ds = true
  d : PyData.depthAll ds ≤ n
  s : PyData.showableAll ds = true
  b : PyData.leavesShortAll 80 ds = true
  w : PyData.weightAll ds ≤ w
theorem Fine.up {n w m v : Nat} {d : PyData} (h : Fine n w d) (hn : n ≤ m := by decide) (hw : w ≤ v := by decide) : Fine m v d := ⟨h.l, Nat.le_trans h.d hn, h.s, h.b, Nat.le_trans h.w hw⟩
theorem FineL.up {n w m v : Nat} {d : List PyData} (h : FineL n w d) (hn : n ≤ m := by decide) (hw : w ≤ v := by decide) : FineL m v d := ⟨h.l, Nat.le_trans h.d hn, h.s, h.b, Nat.le_trans h.w hw⟩
theorem Fine.shp {n w : Nat} {d : PyData} (h : Fine n w d) : Shp n d := ⟨h.l, h.d⟩
theorem Fine.ok {n w : Nat} {d : PyData} (h : Fine n w d) (hn : n ≤ 64 := by decide) : SeqAt.shaped d = true := h.shp.ok hn
theorem Fine.show {n w : Nat} {d : PyData} (h : Fine n w d) (hn : n ≤ 64 := by decide) (hw : w ≤ 200000 := by decide) : d.showable = true ∧ SeqAt.shaped d = true ∧ d.shown.length ≤ sizeLine := by
  refine ⟨h.s, h.ok hn, ?_⟩
  have z := PyData.shown_le 80 (by decide) d h.b
  have y := h.w
  rw [sizeLine_eq]
  have : (80 + 2) * d.weight ≤ 82 * 200000 := Nat.mul_le_mul_left _ (by omega)
  omega
theorem fine_none {n w : Nat} : Fine n w .none := ⟨rfl, Nat.zero_le _, rfl, rfl, Nat.zero_le _⟩
theorem fine_bool {n w : Nat} (b : Bool) : Fine n w (.bool b) := ⟨rfl, Nat.zero_le _, rfl, rfl, Nat.zero_le _⟩
theorem fine_str {n w : Nat} {x : Str} (h : PyData.strOk x = true) (hw : x.cps.size ≤ w) : Fine n w (.str x) :=
  ⟨h, Nat.zero_le _, rfl, PyData.leavesShort_of_canLay0 80 (.str x) h rfl, hw⟩
theorem fine_int {n : Nat} {i : Int} (k : Nat) (h : i.natAbs < 2 ^ k) (hk : k ≤ 230 := by decide) : Fine n k (.int i) := by
  have lg : i ≠ 0 → i.natAbs.log2 < k := fun hi => (Nat.log2_lt (by omega)).mpr h
  refine ⟨rfl, Nat.zero_le _, ?_, ?_, ?_⟩
  · show decide (i.natAbs.log2 < 1920) = true
    by_cases hi : i = 0
    · subst hi; rfl
    · exact decide_eq_true (by have := lg hi; omega)
  · show decide ((PyData.shown (.int i)).length ≤ 80) = true
    refine decide_eq_true ?_
    have h2 : i.natAbs < 10 ^ 70 := Nat.lt_of_lt_of_le h (Nat.le_trans (Nat.pow_le_pow_right (by decide) hk) (by decide))
    have e := int_text_length_le10 (k := 70) (by decide) h2
    show (Str.ofString (toString i)).length ≤ 80
    rw [PySem.ofString_length]
    omega
  · show (if i == 0 then 0 else i.natAbs.log2 + 1) ≤ k
    split
    · exact Nat.zero_le _
    · rename_i hi
      have := lg (by simpa using hi)
      omega
theorem fineL_nil {n w : Nat} : FineL n w [] := ⟨rfl, Nat.zero_le _, rfl, rfl, Nat.zero_le _⟩
theorem fineL_cons {n a b : Nat} {d : PyData} {ds : List PyData} (h : Fine n a d) (t : FineL n b ds) : FineL n (a + 1 + b) (d :: ds) := by
  refine ⟨?_, ?_, ?_, ?_, ?_⟩
  · show (d.canLay0 && _) = true; rw [h.l, t.l]; rfl
  · show max d.depth _ ≤ n; exact Nat.max_le.mpr ⟨h.d, t.d⟩
  · show (d.showable && _) = true; rw [h.s, t.s]; rfl
  · show (d.leavesShort 80 && _) = true; rw [h.b, t.b]; rfl
  · show d.weight + 1 + _ ≤ _; have := h.w; have := t.w; omega
theorem fineL_all {n w : Nat} : ∀ {ds : List PyData}, (∀ d, d ∈ ds → Fine n w d) → FineL n (ds.length * (w + 1)) ds
  | [], _ => fineL_nil
  | d :: ds, h => by
    have z := fineL_cons (h d List.mem_cons_self) (fineL_all fun e he => h e (List.mem_cons_of_mem _ he))
    refine z.up (Nat.le_refl _) ?_
    rw [List.length_cons, Nat.add_mul, Nat.one_mul]
    omega
theorem fineL_map {A : Type} {n w k : Nat} {xs : List A} {g : A → PyData} (h : ∀ x, x ∈ xs → Fine n w (g x)) (hk : xs.length ≤ k) : FineL n (k * (w + 1)) (xs.map g) := by
  refine (fineL_all (w := w) fun d hd => ?_).up (Nat.le_refl _) (Nat.mul_le_mul_right _ (by rw [List.length_map]; exact hk))
  obtain ⟨x, hx, rfl⟩ := List.mem_map.mp hd
  exact h x hx
theorem fine_tup {n w : Nat} {ds : List PyData} (h : FineL n w ds) : Fine (n + 1) w (.tuple ds) := ⟨h.l, Nat.succ_le_succ h.d, h.s, h.b, h.w⟩
theorem fine_lst {n w : Nat} {ds : List PyData} (h : FineL n w ds) : Fine (n + 1) w (.list ds) := ⟨h.l, Nat.succ_le_succ h.d, h.s, h.b, h.w⟩
/-- a comprehension by an invariant over the items gone through -/
theorem lc_list {p : Pat} {t : DT} {e : DX} {vs : List Nat} {r : DEnv} {Q : List PyData → DEnv → Prop} (I : List PyData → List PyData → DEnv → Prop) (xs : List PyData) (h0 : I [] [] r) (he : ∀ ys r', I xs ys r' → Q ys r')
    (hs : ∀ pre x post acc r', xs = pre ++ x :: post → I pre acc r' → optQ (p.f x r') fun r1 => wT t r1 (fun b r2 => if b = true then wZ e r2 (fun y r3 => I (pre ++ [x]) (acc ++ [y]) (wipeD r3 vs)) E0x else I (pre ++ [x]) acc (wipeD r2 vs)) E0x) : wM p t e vs xs r Q := by
  have h := lc_for (p := p) (t := t) (e := e) (vs := vs) (g := fun d : PyData => d) (r := r) (Q := Q) I xs h0 he hs
  rw [List.map_id'] at h
  exact h
theorem for_list {p : Pat} {b : DS} {P : RS → Prop} (I : List PyData → DEnv → Prop) (xs : List PyData) {r : DEnv} (h0 : I [] r) (he : ∀ r', I xs r' → P (.nx r'))
    (hs : ∀ pre x post r', xs = pre ++ x :: post → I pre r' → optQ (p.f x r') fun r1 => wS b r1 (turnQ P (I (pre ++ [x])))) : wL p b xs r P := by
  have h := for_map (p := p) (b := b) (g := fun d : PyData => d) (P := P) I xs (r := r) h0 he hs
  rw [List.map_id'] at h
  exact h
/-! ### small sizes -/
theorem szT {n : Nat} (h : n ≤ 1000) : (n ≤ sizeLine) = True := propext ⟨fun _ => trivial, fun _ => Nat.le_trans h (by rw [sizeLine_eq]; decide)⟩
theorem sz0 : (0 ≤ sizeLine) = True := szT (by decide)
theorem sz1 : (1 ≤ sizeLine) = True := szT (by decide)
theorem sz2 : (2 ≤ sizeLine) = True := szT (by decide)
theorem sz3 : (3 ≤ sizeLine) = True := szT (by decide)
theorem sz4 : (4 ≤ sizeLine) = True := szT (by decide)
theorem sz5 : (5 ≤ sizeLine) = True := szT (by decide)
theorem sz6 : (6 ≤ sizeLine) = True := szT (by decide)
theorem sz7 : (7 ≤ sizeLine) = True := szT (by decide)
theorem sz8 : (8 ≤ sizeLine) = True := szT (by decide)
theorem sz9 : (9 ≤ sizeLine) = True := szT (by decide)
theorem sz10 : (10 ≤ sizeLine) = True := szT (by decide)
theorem sz11 : (11 ≤ sizeLine) = True := szT (by decide)
theorem sz12 : (12 ≤ sizeLine) = True := szT (by decide)
theorem sz13 : (13 ≤ sizeLine) = True := szT (by decide)
theorem sz14 : (14 ≤ sizeLine) = True := szT (by decide)
theorem sz15 : (15 ≤ sizeLine) = True := szT (by decide)
theorem sz16 : (16 ≤ sizeLine) = True := szT (by decide)
end Dn
local macro_rules
  | `(tactic| simp_arith) => `(tactic| simp only [seval, Dn.wipeD, Dn.restoreD, Dn.ownFree, Dn.setAllD, Dn.putBack, Dn.perm, Dn.optQ_some, Dn.optQ_none, Dn.optQ_ite, Dn.wX_C, Dn.wO_eq, Dn.wZ_eq, Dn.wX_bin, Dn.wX_if, Dn.wX_andV, Dn.wX_orV, Dn.wX_notV, Dn.wT_B, Dn.wT_and, Dn.wT_or, Dn.wT_not, Dn.wT_yes, Dn.wA_nil, Dn.wA_cons, Dn.wD_nil, Dn.wD_cons, Dn.wP_nil, Dn.wP_cons, Dn.wX_tup, Dn.wX_lst, Dn.wX_cb, Dn.wN_no, Dn.wN_part, Dn.wX_slice, Dn.wX_m, Dn.wX_lr2, Dn.wX_lr1, Dn.wC, Dn.wX_call, Dn.wX_callP, Dn.wS_skip, Dn.wS_break, Dn.wS_cont, Dn.wS_stuck, Dn.wS_retN, Dn.wS_drop, Dn.wS_ret, Dn.wS_if, Dn.wS_set, Dn.wS_un, Dn.wS_put, Dn.wS_par, Dn.wI_any, Dn.wI_rng, Dn.wS_for, Dn.wX_lc, Dn.wX_v, Dn.varQ_dat, Dn.varQ_own, Dn.varQ_fn, Dn.varQ_scr, Dn.opQ_dat, Dn.opQ_loc, Dn.opQ_fn, Dn.opQ_scr, Dn.opQ_own, Dn.pk_dat, Dn.pk_loc, Dn.pkAt_dat, Dn.pkAt_own, Dn.frz_dat, Dn.frz_own, Dn.frz_loc, Dn.frzAt_dat, Dn.frzAt_own, Dn.keepV_T, Dn.keepV_F, Dn.keepV_d, Dn.keepV_l, Dn.setK_dat, Dn.setK_T, Dn.setK_F, Dn.setK_fn, Dn.setK_loc, Dn.ownL_own, Dn.upd1_at, Dn.updAt_own, Dn.updAt_dat, Dn.pName_f, Dn.psNil_f, Dn.psCons_f, Dn.psCons_n, Dn.psNil_n, Dn.pTup_f, Dn.turnQ_nx, Dn.turnQ_ct, Dn.turnQ_bk, Dn.turnQ_rt, Dn.turnQ_exc, Dn.retQ_dat, Dn.retQ_own, Dn.retQ_loc, Dn.retL_own, Dn.retL_dat, Dn.endQ_nx, Dn.endQ_rt, Dn.endQ_exc, Dn.finQ_dat, Dn.finQ_own, Dn.coll_nil, Dn.coll_own, Dn.coll_dat, Dn.coll_scr, Dn.coll_fn, Dn.frzA_nil, Dn.frzA_loc, Dn.frzA_locT, Dn.frzA_dat, Dn.frzA_scr, Dn.frzA_fn, Dn.colA_nil, Dn.colA_dat, Dn.colA_fn, Dn.colA_scr, Dn.ownOb_own, Dn.colA_loc, Dn.pks_nil, Dn.pks_cons, Dn.slQ_scr, Dn.slQ_dat, Dn.slQ_loc, Dn.slD_list, Dn.slD_tuple, Dn.slD_str, Dn.addD_int, Dn.addD_str, Dn.addD_list, Dn.addD_tuple, Dn.subD_int, Dn.fdivD_int, Dn.modD_int, Dn.powD_int, Dn.mulD_int, Dn.mulD_list, Dn.eqD_if, Dn.neD_if, Dn.ltD_int, Dn.leD_int, Dn.gtD_int, Dn.geD_int, Dn.inL_list, Dn.inL_tuple, Dn.isN_none, Dn.isN_int, Dn.isN_str, Dn.isN_bool, Dn.isN_tuple, Dn.isN_list, Dn.op1_1, Dn.op2_2, Dn.lenD_list, Dn.lenD_tuple, Dn.lenD_str, Dn.tupleD_list, Dn.tupleD_tuple, Dn.listD_list, Dn.listD_tuple, Dn.intD_int, Dn.intD_bool, Dn.min2D_int, Dn.max2D_int, Dn.sortD_list, Dn.reprD_if, Dn.onA_list, Dn.onA_tuple, Dn.onA_str, Dn.onS_list, Dn.onS_tuple, Dn.rng1_int, Dn.rng2_int, Dn.ixD_list, Dn.ixD_tuple, Dn.appendO_1, Dn.popO_1, Dn.ixN_nat, Dn.ixN_lit, Dn.atI_nat, Dn.atI_lit, Dn.zz_g0, Dn.zz_gs, Dn.zz_gn, Dn.zz_s0, Dn.zz_ss, Dn.zz_lc, Dn.zz_ln, Dn.zz_lm, Dn.zz_ca, Dn.zz_na, Dn.zz_ac, Dn.zz_an, Dn.zz_gd, Dn.zz_gdn, Dn.zz_fc, Dn.zz_fn, Dn.zz_dn, Dn.zz_dc, Dn.zz_mn, Dn.zz_ed, Dn.zz_eb, Dn.zz_ei, Dn.zz_es, Dn.zz_et, Dn.zz_el, Dn.zz_x1, Dn.zz_x2, Dn.zz_at, Dn.zz_ta, Dn.zz_bt, Dn.zz_tb, Dn.zz_it, Dn.zz_if, Dn.zz_ft, Dn.zz_tt, Dn.zz_nt, Dn.zz_nf, Dn.zz_nff, Dn.zz_is, Dn.zz_to, Dn.zz_ot, Dn.zz_fo, Dn.zz_fa, Dn.zz_af, Dn.leaf_n, Dn.leaf_b, Dn.leaf_i, Dn.leaf_s, Dn.leaf_t, Dn.leaf_l, Dn.leafs_n, Dn.leafs_c, Dn.leafs_s, Dn.leafs_i, Dn.shaped_n, Dn.shaped_b, Dn.shaped_i, Dn.zz_rf, Dn.wI_enum1, Dn.wX_sortSet, Dn.wX_lenSet, Dn.wX_sortSc, Dn.sz0, Dn.sz1, Dn.sz2, Dn.sz3, Dn.sz4, Dn.sz5, Dn.sz6, Dn.sz7, Dn.sz8, Dn.sz9, Dn.sz10, Dn.sz11, Dn.sz12, Dn.sz13, Dn.sz14, Dn.sz15, Dn.sz16, Nat.reduceAdd, Nat.reduceSub, Nat.reduceLT, Nat.reduceLeDiff, Nat.reduceEqDiff])
  | `(tactic| simp_arith [$xs,*]) => `(tactic| simp only [seval, Dn.wipeD, Dn.restoreD, Dn.ownFree, Dn.setAllD, Dn.putBack, Dn.perm, Dn.optQ_some, Dn.optQ_none, Dn.optQ_ite, Dn.wX_C, Dn.wO_eq, Dn.wZ_eq, Dn.wX_bin, Dn.wX_if, Dn.wX_andV, Dn.wX_orV, Dn.wX_notV, Dn.wT_B, Dn.wT_and, Dn.wT_or, Dn.wT_not, Dn.wT_yes, Dn.wA_nil, Dn.wA_cons, Dn.wD_nil, Dn.wD_cons, Dn.wP_nil, Dn.wP_cons, Dn.wX_tup, Dn.wX_lst, Dn.wX_cb, Dn.wN_no, Dn.wN_part, Dn.wX_slice, Dn.wX_m, Dn.wX_lr2, Dn.wX_lr1, Dn.wC, Dn.wX_call, Dn.wX_callP, Dn.wS_skip, Dn.wS_break, Dn.wS_cont, Dn.wS_stuck, Dn.wS_retN, Dn.wS_drop, Dn.wS_ret, Dn.wS_if, Dn.wS_set, Dn.wS_un, Dn.wS_put, Dn.wS_par, Dn.wI_any, Dn.wI_rng, Dn.wS_for, Dn.wX_lc, Dn.wX_v, Dn.varQ_dat, Dn.varQ_own, Dn.varQ_fn, Dn.varQ_scr, Dn.opQ_dat, Dn.opQ_loc, Dn.opQ_fn, Dn.opQ_scr, Dn.opQ_own, Dn.pk_dat, Dn.pk_loc, Dn.pkAt_dat, Dn.pkAt_own, Dn.frz_dat, Dn.frz_own, Dn.frz_loc, Dn.frzAt_dat, Dn.frzAt_own, Dn.keepV_T, Dn.keepV_F, Dn.keepV_d, Dn.keepV_l, Dn.setK_dat, Dn.setK_T, Dn.setK_F, Dn.setK_fn, Dn.setK_loc, Dn.ownL_own, Dn.upd1_at, Dn.updAt_own, Dn.updAt_dat, Dn.pName_f, Dn.psNil_f, Dn.psCons_f, Dn.psCons_n, Dn.psNil_n, Dn.pTup_f, Dn.turnQ_nx, Dn.turnQ_ct, Dn.turnQ_bk, Dn.turnQ_rt, Dn.turnQ_exc, Dn.retQ_dat, Dn.retQ_own, Dn.retQ_loc, Dn.retL_own, Dn.retL_dat, Dn.endQ_nx, Dn.endQ_rt, Dn.endQ_exc, Dn.finQ_dat, Dn.finQ_own, Dn.coll_nil, Dn.coll_own, Dn.coll_dat, Dn.coll_scr, Dn.coll_fn, Dn.frzA_nil, Dn.frzA_loc, Dn.frzA_locT, Dn.frzA_dat, Dn.frzA_scr, Dn.frzA_fn, Dn.colA_nil, Dn.colA_dat, Dn.colA_fn, Dn.colA_scr, Dn.ownOb_own, Dn.colA_loc, Dn.pks_nil, Dn.pks_cons, Dn.slQ_scr, Dn.slQ_dat, Dn.slQ_loc, Dn.slD_list, Dn.slD_tuple, Dn.slD_str, Dn.addD_int, Dn.addD_str, Dn.addD_list, Dn.addD_tuple, Dn.subD_int, Dn.fdivD_int, Dn.modD_int, Dn.powD_int, Dn.mulD_int, Dn.mulD_list, Dn.eqD_if, Dn.neD_if, Dn.ltD_int, Dn.leD_int, Dn.gtD_int, Dn.geD_int, Dn.inL_list, Dn.inL_tuple, Dn.isN_none, Dn.isN_int, Dn.isN_str, Dn.isN_bool, Dn.isN_tuple, Dn.isN_list, Dn.op1_1, Dn.op2_2, Dn.lenD_list, Dn.lenD_tuple, Dn.lenD_str, Dn.tupleD_list, Dn.tupleD_tuple, Dn.listD_list, Dn.listD_tuple, Dn.intD_int, Dn.intD_bool, Dn.min2D_int, Dn.max2D_int, Dn.sortD_list, Dn.reprD_if, Dn.onA_list, Dn.onA_tuple, Dn.onA_str, Dn.onS_list, Dn.onS_tuple, Dn.rng1_int, Dn.rng2_int, Dn.ixD_list, Dn.ixD_tuple, Dn.appendO_1, Dn.popO_1, Dn.ixN_nat, Dn.ixN_lit, Dn.atI_nat, Dn.atI_lit, Dn.zz_g0, Dn.zz_gs, Dn.zz_gn, Dn.zz_s0, Dn.zz_ss, Dn.zz_lc, Dn.zz_ln, Dn.zz_lm, Dn.zz_ca, Dn.zz_na, Dn.zz_ac, Dn.zz_an, Dn.zz_gd, Dn.zz_gdn, Dn.zz_fc, Dn.zz_fn, Dn.zz_dn, Dn.zz_dc, Dn.zz_mn, Dn.zz_ed, Dn.zz_eb, Dn.zz_ei, Dn.zz_es, Dn.zz_et, Dn.zz_el, Dn.zz_x1, Dn.zz_x2, Dn.zz_at, Dn.zz_ta, Dn.zz_bt, Dn.zz_tb, Dn.zz_it, Dn.zz_if, Dn.zz_ft, Dn.zz_tt, Dn.zz_nt, Dn.zz_nf, Dn.zz_nff, Dn.zz_is, Dn.zz_to, Dn.zz_ot, Dn.zz_fo, Dn.zz_fa, Dn.zz_af, Dn.leaf_n, Dn.leaf_b, Dn.leaf_i, Dn.leaf_s, Dn.leaf_t, Dn.leaf_l, Dn.leafs_n, Dn.leafs_c, Dn.leafs_s, Dn.leafs_i, Dn.shaped_n, Dn.shaped_b, Dn.shaped_i, Dn.zz_rf, Dn.wI_enum1, Dn.wX_sortSet, Dn.wX_lenSet, Dn.wX_sortSc, Dn.sz0, Dn.sz1, Dn.sz2, Dn.sz3, Dn.sz4, Dn.sz5, Dn.sz6, Dn.sz7, Dn.sz8, Dn.sz9, Dn.sz10, Dn.sz11, Dn.sz12, Dn.sz13, Dn.sz14, Dn.sz15, Dn.sz16, Nat.reduceAdd, Nat.reduceSub, Nat.reduceLT, Nat.reduceLeDiff, Nat.reduceEqDiff, $xs,*])
namespace Dn
open PySem PySem.Spec PyProof.Rows L2
/-! ### constants and defs of the module as values -/
def dFn (f : Str) : DX := fun r => .ok (.fn f, r)
section
variable {X : Cx} {W : WX} {k : Nat} {x : Str} {p pos npos apos : Pos} {e a b c : Expr} {es : List Expr} {fa : DA} {f g h : DX} {i : Nat}
theorem eGint {j : Int} (hm : ∃ t, X.mg x = some (.int j t)) (hg : Gl X x := by rfl) (hd : (x == ("__debug__" : Str)) = false := by decide) : DE X W (.Name x pos) (dC (.int j)) :=
  let ⟨t, hm⟩ := hm; de_const (pe_glob (v := .int j) hg hm ⟨t, rfl⟩ hd) fun _ => .int j
theorem eGstr {z : Str} (hm : ∃ t, X.mg x = some (.str z t)) (hg : Gl X x := by rfl) (hd : (x == ("__debug__" : Str)) = false := by decide) : DE X W (.Name x pos) (dC (.str z)) :=
  let ⟨t, hm⟩ := hm; de_const (pe_glob (v := .str z) hg hm ⟨t, rfl⟩ hd) fun _ => .str z
theorem eGfn {a : Addr} (hm : X.mg x = some (.ref a)) (hg : Gl X x := by rfl) (hd : (x == ("__debug__" : Str)) = false := by decide) : DE X W (.Name x pos) (dFn x) := fun fr T =>
  pe_imp (pe_glob (v := .ref a) hg hm rfl hd) fun s H Q ⟨G, r, rel, o⟩ => o (.ref a) H ⟨G, .refl _, rel, a, rfl, hm⟩
/-! ### a local name that holds a def is called -/
/-- the defs that may be held, with what they compute -/
abbrev FTab := List (Str × Fn)
def fnAt (r : DEnv) (i : Nat) : Option Str := match r[i]? with
  | some (some (.fn f)) => some f
  | _ => none
def dCallV (tab : FTab) (i : Nat) (md : List Bool) (fa : DA) : DX := fun r => match fnAt r i with
  | some f => (match tab.lookup f with
    | some φ => (fa r).bind fun p => callK φ md p.1 p.2
    | none => .stuck)
  | none => .stuck
/-- each def of the table keeps its promise, with n parameters -/
structure TabOk (X : Cx) (k n : Nat) (tab : FTab) : Prop where
  ok : ∀ f φ, tab.lookup f = some φ → ∃ st j ps, Has X.prog X.w X.K X.mg X.base f st j ps φ ∧ j ≤ k ∧ ps.length = n
theorem tab_nil {n : Nat} : TabOk X k n [] := ⟨fun f φ h => by cases h⟩
theorem tab_cons {n j : Nat} {f : Str} {φ : Fn} {st : Stmt} {ps : List Str} {tab : FTab} (h : Has X.prog X.w X.K X.mg X.base f st j ps φ) (hj : j ≤ k) (hn : ps.length = n) (t : TabOk X k n tab) : TabOk X k n ((f, φ) :: tab) := ⟨fun f' φ' e => by
  rw [List.lookup_cons] at e
  split at e
  · rename_i hb
    cases e
    rw [eq_of_beq hb]
    exact ⟨st, j, ps, h, hj, hn⟩
  · exact t.ok f' φ' e⟩
theorem eCallV {tab : FTab} {md : List Bool} (i : Nat) (gd : Gd X k) (tk : Takes X W) (ht : TabOk X k (e :: es).length tab) (ha : DAs X W (e :: es) fa) (hl : Ln (e :: es).length fa) (hN : X.N[i]? = some x := by rfl) (hv : Vis X.env.scope x := by first | exact .inl rfl | exact .inr (.inl rfl) | exact .inr (.inr rfl))
    (hdb : (x == ("__debug__" : Str)) = false := by decide) (hcd : (x == ("__classdict__" : Str)) = false := by decide)
    (he : starEach (e :: es) X.env = (false, eval e X.env) :: starEach es X.env := by rfl) (hpl : (backTo pos (starEach es X.env)).any (·.1) = false := by rfl) : DE X W (.Call (.Name x p) (e :: es) [] pos) (dCallV tab i md fa) := fun fr T => by
  refine ⟨fun pins s σ H Q I ⟨G, r, rel, o⟩ => ?_⟩
  unfold dCallV at o
  cases hf : fnAt r i with
  | none => rw [hf] at o; exact o.elim
  | some fnm =>
    rw [hf] at o
    dsimp only at o
    cases hl2 : tab.lookup fnm with
    | none => rw [hl2] at o; exact o.elim
    | some φ =>
      rw [hl2] at o
      dsimp only at o
      obtain ⟨st, j, ps, hh, hj, hn⟩ := ht.ok fnm φ hl2
      obtain ⟨f, fd, hm, F, hb, G1⟩ := hh.ex
      have G2 := G1.up hj
      have hr : r[i]? = some (some (.fn fnm)) := by
        unfold fnAt at hf
        split at hf
        · rename_i z hz
          cases hf
          exact hz
        · cases hf
      obtain ⟨v, ev, a, ea, em⟩ := rel.slot i _ hr
      rw [hm] at em
      have eaf : a = f := by injection em with em; injection em with em; exact em.symm
      rw [ea, eaf] at ev
      refine wpAny_Call_Name_kw (thn ((pe_var (pos := p) hN hv hdb hcd).run pins s σ H (fun v H1 => v = .ref f ∧ H1 = H) I ⟨.ref f, ev, rfl, rfl⟩) fun u s1 ⟨v, H1, I1, r1, q1⟩ => ?_)
      obtain ⟨rfl, rfl⟩ := q1
      cases r1
      have t : tDA X W fr T fa σ H1 fun vs H2 => spD X.K X.mg ps.length φ vs H2 Q (WE W σ) := by
        refine ⟨G, r, rel, ?_⟩
        cases hfa : fa r with
        | stuck => rw [hfa] at o; exact o
        | exc c fs r' => rw [hfa] at o; exact o
        | ok q =>
          rw [hfa] at o
          intro vs H2 ⟨G3, m, rel1, pr⟩
          exact call_ok (by rw [Paired.length pr, hl r q hfa, hn]) rel1 pr (out.mono m o)
      refine PySem.W.callWith_K (h₀ := X.base) I.ok.mod.kin F.kp (thn ((ha fr T).run pos pins s1 σ _ _ I1 t) fun us s2 ⟨vs, H2, I2, rv, q⟩ => ⟨I2.kIn, ?_⟩) he hpl
      have hlen : us.length = ps.length := by rw [← rv.length]; exact q.1
      have b := hb s2 us I2.kIn (by rw [List.append_nil]; exact hlen)
      rw [List.append_nil] at b
      exact run_fnG G2 gd.room gd.gd tk b I2 rv q
/-- f() -/
theorem eCall0 {j : Nat} {st : Stmt} {φ : Fn} (gd : Gd X k) (tk : Takes X W) (hh : Has X.prog X.w X.K X.mg X.base x st j [] φ) (hj : j ≤ k) (hg : Gl X x := by rfl) (hdb : (x == ("__debug__" : Str)) = false := by decide) : DE X W (.Call (.Name x p) [] [] pos) (dCall φ [] dNil) := fun fr T => by
  obtain ⟨f, fd, hm, F, hb, G1⟩ := hh.ex
  refine ⟨fun pins s σ H Q I ⟨G, r, rel, o⟩ => ?_⟩
  refine wpAny_Call_Name_kw (ld_glob I hg hm ?_ hdb)
  have q : spD X.K X.mg 0 φ [] H Q (WE W σ) := call_ok (md := []) (vs := []) (dvs := []) rfl rel .nil (show out X W fr T G σ (callK φ [] [] r) Q from o)
  refine PySem.W.callWith_K0 I.kIn F.kp ?_
  have b := hb s [] I.kIn rfl
  exact run_fnG (ps := []) (G1.up hj) gd.room gd.gd tk b I .nil q
/-! ### x is None where x may be a def -/
def isNoneV (neg : Bool) (i : Nat) (r : DEnv) : R (DV × DEnv) := match r[i]? with
  | some (some (.fn _)) => .ok (.dat (.bool neg), r)
  | some (some (.dat .none)) => .ok (.dat (.bool (!neg)), r)
  | _ => .stuck
def dIsNV (neg : Bool) (i : Nat) : DX := fun r => isNoneV neg i r
theorem eIsNV (neg : Bool) {op : CmpOp} {np : Pos} {kk : Nat} (i : Nat) (hop : op = if neg then CmpOp.IsNot else .Is) (hN : X.N[i]? = some x := by rfl) (hv : Vis X.env.scope x := by first | exact .inl rfl | exact .inr (.inl rfl) | exact .inr (.inr rfl))
    (hdb : (x == ("__debug__" : Str)) = false := by decide) (hcd : (x == ("__classdict__" : Str)) = false := by decide) (hb : behindInMarks op (.Constant .none kk np) = false := by rfl) :
    DE X W (.Compare (.Name x p) [op] [.Constant .none kk np] pos) (dIsNV neg i) := fun fr T => by
  subst hop
  cases neg with
  | false =>
    refine pe_imp (pe_cmpR op_isN (pe_var hN hv hdb hcd) pe_non hb) fun s H Q ⟨G, r, rel, o⟩ => ?_
    unfold dIsNV isNoneV at o
    split at o
    · rename_i f hi
      obtain ⟨v, ev, a, ea, em⟩ := rel.slot i _ hi
      refine ⟨v, ev, rfl, ?_⟩
      subst ea
      exact o (.bl false) H ⟨G, .refl _, rel, .bl false⟩
    · rename_i hi
      obtain ⟨v, ev, q⟩ := rel.slot i _ hi
      have q : Dq G v .none := q
      cases q
      exact ⟨.non, ev, rfl, o (.bl true) H ⟨G, .refl _, rel, .bl true⟩⟩
    · exact o.elim
  | true =>
    refine pe_imp (pe_cmpR op_notN (pe_var hN hv hdb hcd) pe_non hb) fun s H Q ⟨G, r, rel, o⟩ => ?_
    unfold dIsNV isNoneV at o
    split at o
    · rename_i f hi
      obtain ⟨v, ev, a, ea, em⟩ := rel.slot i _ hi
      refine ⟨v, ev, rfl, ?_⟩
      subst ea
      exact o (.bl true) H ⟨G, .refl _, rel, .bl true⟩
    · rename_i hi
      obtain ⟨v, ev, q⟩ := rel.slot i _ hi
      have q : Dq G v .none := q
      cases q
      exact ⟨.non, ev, rfl, o (.bl false) H ⟨G, .refl _, rel, .bl false⟩⟩
    · exact o.elim
/-! ### a < b < c -/
def boolK (v : DV) (r : DEnv) (F : DEnv → R (DV × DEnv)) : R (DV × DEnv) := match v with
  | .dat (.bool true) => F r
  | .dat (.bool false) => .ok (.dat (.bool false), r)
  | _ => .stuck
def dChain (op op2 : Op2) (f g h : DX) : DX := fun r => (opd f r).bind fun p => (opd g p.2).bind fun q => (binK op p.1 q.1 q.2).bind fun z => boolK z.1 z.2 fun r3 => (opd h r3).bind fun t => binK op2 q.1 t.1 t.2
theorem chain_run {q1 q2 : Op2} {fr : Fm} {T : List (Addr × Ob)} {s : L2.St} {H : Hp} {Q : VK} (w : tD X W fr T (dChain q1 q2 f g h) s H Q) : tChain (rD q1) (rD q2) (tD X W fr T f) (tD X W fr T g) (tD X W fr T h) s H Q := by
    obtain ⟨G, r, rel, o⟩ := w
    refine opd_bindO (g := fun u r1 => (opd g r1).bind fun q => (binK q1 u q.1 q.2).bind fun z => boolK z.1 z.2 fun r3 => (opd h r3).bind fun t => binK q2 q.1 t.1 t.2) (ocX Q) rel o fun G1 r1 v H1 dv m rel1 ov o1 => ?_
    refine opd_bindO (g := fun u r2 => (binK q1 dv u r2).bind fun z => boolK z.1 z.2 fun r3 => (opd h r3).bind fun t => binK q2 u t.1 t.2) (ocX Q) rel1 o1 fun G2 r2 w H2 dw m2 rel2 ow o2' => ?_
    have o2' : out X W fr T G2 s ((binK q1 dv dw r2).bind fun z => boolK z.1 z.2 fun r3 => (opd h r3).bind fun t => binK q2 dw t.1 t.2) Q := o2'
    unfold binK at o2'
    cases hx : pk dv r2 with
    | none => rw [hx] at o2'; exact o2'.elim
    | some d1 =>
      cases hy : pk dw r2 with
      | none => rw [hx, hy] at o2'; exact o2'.elim
      | some d2 =>
        rw [hx, hy] at o2'
        dsimp only at o2'
        cases hop : q1 d1 d2 with
        | none => rw [hop] at o2'; exact o2'.elim
        | some dz =>
          rw [hop] at o2'
          have o3 : out X W fr T G2 s (boolK dz r2 fun r3 => (opd h r3).bind fun t => binK q2 dw t.1 t.2) Q := o2'
          refine ⟨G2, d1, d2, dz, rel2.sub, opr_of rel2 (ov.mono m2) hx, opr_of rel2 ow hy, hop, fun z H3 hz => ?_⟩
          unfold boolK at o3
          split at o3
          · have pz := hz.post rel2
            obtain ⟨G3, m3, rel3, dq3⟩ := pz
            cases dq3
            refine ⟨true, rfl, iteT ?_⟩
            have o4 := out.mono m3 o3
            refine opd_bindO (g := fun u r4 => binK q2 dw u r4) (ocX Q) rel3 o4 fun G4 r4 y H4 dy m4 rel4 oy o5 => ?_
            have o5 : out X W fr T G4 s (binK q2 dw dy r4) Q := o5
            unfold binK at o5
            split at o5
            · rename_i x1 y1 hx1 hy1
              split at o5
              · rename_i dv' hop2
                exact ⟨G4, x1, y1, dv', rel4.sub, opr_of rel4 ((ow.mono m3).mono m4) hx1, opr_of rel4 oy hy1, hop2, fun v' H' q => o5 v' H' (q.post rel4)⟩
              · exact o5.elim
            · exact o5.elim
          · obtain ⟨G3, m3, rel3, dq3⟩ := hz.post rel2
            cases dq3
            exact ⟨false, rfl, iteF (o3 (.bl false) H3 ⟨G3, m3, rel3, .bl false⟩)⟩
          · exact o3.elim
theorem eChain {o1 o2 : CmpOp} {q1 q2 : Op2} (h1 : OpR X (compareOp o1) (rD q1)) (h2 : OpR X (compareOp o2) (rD q2)) (hf : DE X W a f) (hg : DE X W b g) (hh : DE X W c h) (hm : lastMarks [o1, o2] [b, c] = false := by rfl) :
    DE X W (.Compare a [o1, o2] [b, c] pos) (dChain q1 q2 f g h) := fun fr T => pe_imp (pe_chain h1 h2 (hf fr T) (hg fr T) (hh fr T) (hm := hm)) fun _ _ _ w => chain_run w
theorem tChn {o1 o2 : CmpOp} {q1 q2 : Op2} (h1 : OpR X (compareOp o1) (rD q1)) (h2 : OpR X (compareOp o2) (rD q2)) (hf : DE X W a f) (hg : DE X W b g) (hh : DE X W c h) (hm : lastMarks [o1, o2] [b, c] = false := by rfl) :
    DTe X W (.Compare a [o1, o2] [b, c] pos) (dB (dChain q1 q2 f g h)) := fun fr T => pt_imp (pt_chain h1 h2 (hf fr T) (hg fr T) (hh fr T) (hm := hm)) fun _ _ _ w => chain_run (dB_run w)
/-! ### -x -/
def negK (v : DV) (r : DEnv) : R (DV × DEnv) := match v with
  | .dat (.int i) => .ok (.dat (.int (-i)), r)
  | _ => .stuck
def dNeg (f : DX) : DX := fun r => (opd f r).bind fun p => negK p.1 p.2
theorem eNeg (hf : DE X W a f) : DE X W (.UnaryOp .USub a pos) (dNeg f) := fun fr T =>
  pe_imp (pe_un un_neg (hf fr T)) fun s H Q ⟨G, r, rel, o⟩ => by
    refine opd_bindO (g := fun u r1 => negK u r1) (ocX Q) rel o fun G1 r1 v H1 dv m rel1 ov o1 => ?_
    have o1 : out X W fr T G1 s (negK dv r1) Q := o1
    unfold negK at o1
    split at o1
    · have ov : Dq G1 v _ := ov
      cases ov
      exact ⟨_, rfl, o1 _ H1 ⟨G1, .refl _, rel1, .int _⟩⟩
    · exact o1.elim
end
end Dn
namespace Dn
open PySem PySem.Spec PyProof.Rows L2
/-! ### isinstance by data -/
def isiB : String → PyData → Bool
  | "int", .int _ => true
  | "int", .bool _ => true
  | "bool", .bool _ => true
  | "str", .str _ => true
  | "list", .list _ => true
  | "tuple", .tuple _ => true
  | _, _ => false
def isiTs : List String := ["int", "bool", "str", "list", "tuple"]
theorem kit_tab : (["NoneType", "bool", "int", "str", "list", "tuple"].all fun a => isiTs.all fun b => kitB a b == some (match a, b with
  | "int", "int" => true
  | "bool", "int" => true
  | "bool", "bool" => true
  | "str", "str" => true
  | "list", "list" => true
  | "tuple", "tuple" => true
  | _, _ => false)) = true := by kernel_rfl
theorem kitB_isi {T : String} (hT : T ∈ isiTs) {d : PyData} (hd : ∀ k, d ≠ .dict k) : kitB (tyN d) T = some (isiB T d) := by
  have key := List.all_eq_true.mp kit_tab
  have h2 : ∀ a, a ∈ ["NoneType", "bool", "int", "str", "list", "tuple"] → _ := fun a ha => eq_of_beq (List.all_eq_true.mp (key a ha) T hT)
  have hT' : T = "int" ∨ T = "bool" ∨ T = "str" ∨ T = "list" ∨ T = "tuple" := by
    unfold isiTs at hT
    simpa using hT
  cases d with
  | dict k => exact absurd rfl (hd k)
  | none => rcases hT' with rfl | rfl | rfl | rfl | rfl <;> exact h2 "NoneType" (by simp)
  | bool b => rcases hT' with rfl | rfl | rfl | rfl | rfl <;> exact h2 "bool" (by simp)
  | int b => rcases hT' with rfl | rfl | rfl | rfl | rfl <;> exact h2 "int" (by simp)
  | str b => rcases hT' with rfl | rfl | rfl | rfl | rfl <;> exact h2 "str" (by simp)
  | list b => rcases hT' with rfl | rfl | rfl | rfl | rfl <;> exact h2 "list" (by simp)
  | tuple b => rcases hT' with rfl | rfl | rfl | rfl | rfl <;> exact h2 "tuple" (by simp)
def isDict : PyData → Bool
  | .dict _ => true
  | _ => false
def isi2K (T U : String) (v : DV) (r : DEnv) : R (DV × DEnv) := match pk v r with
  | some d => if isDict d = true then .stuck else .ok (.dat (.bool (isiB T d || isiB U d)), r)
  | none => .stuck
def dIsi2 (T U : String) (f : DX) : DX := fun r => (opd f r).bind fun p => isi2K T U p.1 p.2
section
variable {X : Cx} {W : WX} {k : Nat} {x y : Str} {p q pos npos apos : Pos} {e a b c : Expr} {es : List Expr} {fa : DA} {f g h : DX} {i : Nat}
theorem eIsi2 {T U : String} {q2 tp : Pos} {kk : Nat} (hT : T ∈ isiTs) (hU : U ∈ isiTs) (hm : X.mg "isinstance" = none) (hm1 : X.mg x = none) (hv1 : bootBuiltins x = some (.type T)) (hm2 : X.mg y = none) (hv2 : bootBuiltins y = some (.type U)) (he : DE X W e f) (hg : Gl X "isinstance" := by rfl) (hg1 : Gl X x := by rfl) (hg2 : Gl X y := by rfl)
    (hn1 : x ≠ "__name__" := by decide) (hd1 : (x == ("__debug__" : Str)) = false := by decide) (hn2 : y ≠ "__name__" := by decide) (hd2 : (y == ("__debug__" : Str)) = false := by decide)
    (hs : starEach [e, .Tuple [.Name x q, .Name y q2] kk tp] X.env = (false, eval e X.env) :: starEach [.Tuple [.Name x q, .Name y q2] kk tp] X.env := by rfl) (hs2 : starEach [.Tuple [.Name x q, .Name y q2] kk tp] X.env = (false, eval (.Tuple [.Name x q, .Name y q2] kk tp) X.env) :: starEach [] X.env := by rfl)
    (hs3 : starEach [.Name x q, .Name y q2] X.env = (false, eval (.Name x q) X.env) :: starEach [.Name y q2] X.env := by rfl) (hs4 : starEach [.Name y q2] X.env = (false, eval (.Name y q2) X.env) :: starEach [] X.env := by rfl)
    (hpl : (backTo pos (starEach [.Tuple [.Name x q, .Name y q2] kk tp] X.env)).any (·.1) = false := by rfl) :
    DE X W (.Call (.Name "isinstance" p) [e, .Tuple [.Name x q, .Name y q2] kk tp] [] pos) (dIsi2 T U f) := fun fr T' =>
  pe_imp (pe_callB (r := rIsiT X.K) call_isiT hg hm boot_isinstance (pa_cons (he fr T') (pa_cons (pe_tup (pa_cons (pe_bltn (v := .ty T) hg1 hm1 hv1 rfl hn1 hd1) (pa_cons (pe_bltn (v := .ty U) hg2 hm2 hv2 rfl hn2 hd2) pa_nil hs4) hs3)) pa_nil hs2) hs) (by decide) (by decide) hs hpl) fun s H Q ⟨G, r, rel, o⟩ => by
    refine opd_bindO (g := fun v r1 => isi2K T U v r1) (ocX Q) rel o fun G1 r1 v H1 dv m rel1 ov o1 => ?_
    have o1 : out X W fr T' G1 s (isi2K T U dv r1) Q := o1
    unfold isi2K at o1
    cases hp : pk dv r1 with
    | none => rw [hp] at o1; exact o1.elim
    | some d =>
      rw [hp] at o1
      dsimp only at o1
      by_cases hdd : isDict d = true
      · rw [if_pos hdd] at o1; exact o1.elim
      · rw [if_neg hdd] at o1
        have nd : ∀ k, d ≠ .dict k := fun k z => hdd (by rw [z]; rfl)
        refine ⟨by show 2 ≤ sizeLine; rw [sizeLine_eq]; decide, fun tq hq => ?_⟩
        have ex : Ext G1 H1 G1 (upd H1 tq (.tup [.ty T, .ty U])) := Ext.beside rel1.sub hq
        have rel2 := rel1.ext ex
        have ty := opr_ty (K := X.K) (opr_of rel2 ov hp) rel2.sub
        refine ⟨v, tq, [.ty T, .ty U], .type (tyN d), [.type T, .type U], isiB T d || isiB U d, rfl, upd_same, .cons (.ty T) (.cons (.ty U) .nil), ty, ?_, o1 _ _ ⟨G1, .refl _, rel2, .bl _⟩⟩
        refine kitAny_cons (kit_ty (kitB_isi hT nd)) (fun z1 => kitAny_cons (kit_ty (kitB_isi hU nd)) (fun z2 => ?_) fun z2 => ?_) fun z1 => ?_
        · exact kitAny_nil.trans (by rw [z1, z2]; rfl)
        · rw [z2, Bool.or_true]
        · rw [z1]; rfl
/-! ### xs.insert(i, x) -/
theorem mInsert {ff : DF} (i : Nat) (ha : DFs X W (e :: es) ff) (hN : X.N[i]? = some x := by rfl) (hv : Vis X.env.scope x := by first | exact .inl rfl | exact .inr (.inl rfl) | exact .inr (.inr rfl)) (hd : (x == ("__debug__" : Str)) = false := by decide) (hcd : (x == ("__classdict__" : Str)) = false := by decide)
    (hbase : attributeBase (.Name x npos) "insert" X.env (eval (.Name x npos) X.env) = eval (.Name x npos) X.env := by rfl)
    (hfew : ((backTo pos (starEach (e :: es) X.env)).all (fun x => !x.1) && (backToKw pos (keywordEach [] X.env)).all (fun x => x.1.isSome) && decide ((e :: es).length + ([] : List Keyword).length + (if ([] : List Keyword).isEmpty then 0 else 1) < 30)) = true := by rfl)
    (hline : (apos.endLine == pos.line) = true := by rfl) (hs : starEach (e :: es) X.env = (false, eval e X.env) :: starEach es X.env := by rfl) (hplain : (backTo pos (starEach es X.env)).any (·.1) = false := by rfl) :
    DE X W (.Call (.Attribute (.Name x npos) "insert" apos) (e :: es) [] pos) (dM insertO i ff) := de_m hN hv hd hcd PySem.F.slot_list_insert (by first | rfl | kernel_rfl) mt_insertD ha hbase hfew hline hs hplain
/-! ### text * int -/
def repS (z : Str) (n : Int) : Str := Txt.mul z n
def mulX : Op2
  | .str z, .int n => if z.length ≤ 1000 ∧ -1000 ≤ n ∧ n ≤ 1000 then some (.dat (.str (repS z n))) else none
  | d, e => mulD d e
theorem op_mulX' : OpR X (binaryOp .Mult) (rD mulX) := by
  intro pins s σ H x y v u Q I rx ry h
  obtain ⟨G, d, e, dv, m, hd, he, hop, q⟩ := h
  have old : mulD d e = some dv → _ := fun z => op_mulD pins s σ H x y v u Q I rx ry ⟨G, d, e, dv, m, hd, he, z, q⟩
  cases d <;> try (exact old hop)
  cases e <;> try (exact old hop)
  rename_i z n
  have hop : (if z.length ≤ 1000 ∧ -1000 ≤ n ∧ n ≤ 1000 then some (DV.dat (.str (repS z n))) else none) = some dv := hop
  split at hop
  · rename_i hc
    cases hop
    obtain rfl := opr_str hd
    obtain rfl := opr_int he
    obtain ⟨t, rfl⟩ := rx
    obtain ⟨t', rfl⟩ := ry
    have hok : MulOk z n := by
      refine ⟨?_, fun h1 _ => ?_, fun h1 _ => ?_⟩
      · rw [decide_eq_false (by omega), decide_eq_false (by omega)]; rfl
      · have e2 : (2 ^ 63 - 1 : Int) = 9223372036854775807 := by decide
        rw [e2]
        have b1 : z.length * n.toNat ≤ 1000 * 1000 := Nat.mul_le_mul hc.1 (by omega)
        have e3 : (z.length : Int) * n = ((z.length * n.toNat : Nat) : Int) := by
          rw [Int.natCast_mul, Int.toNat_of_nonneg (by omega)]
        have e4 : (z.length : Int) ≤ 9223372036854775807 / n := Int.le_ediv_of_mul_le (by omega) (by rw [e3]; omega)
        omega
      · unfold Builtin.Str.tooLong
        have b1 : z.length * n.toNat ≤ 1000 * 1000 := Nat.mul_le_mul hc.1 (by omega)
        rw [sizeLine_eq]
        exact decide_eq_false (by omega)
    refine SB.mul hok fun tk kk => ?_
    exact ⟨.str (repS z n), H, I.tok _, ⟨tk, rfl⟩, q _ _ (rp_str m)⟩
  · cases hop
end
end Dn
namespace Dn
open PySem PySem.Spec PyProof.Rows L2
/-! ### t[::-1] -/
section
variable {prog : Program} {w : World} {A : Around} {E : Value → Shared → Prop} {s : Shared}
theorem rev_pick (xs : Array Value) : ((List.range xs.size).filterMap fun (m : Nat) => xs[(((xs.size : Int) - 1) + (m : Int) * (-1)).toNat]?).toArray = xs.toList.reverse.toArray := by
  congr 1
  have e : ∀ m, m ∈ List.range xs.size → xs[(((xs.size : Int) - 1) + (m : Int) * (-1)).toNat]? = some (xs.toList.reverse.getD m .none) := fun m hm => by
    have hm := List.mem_range.mp hm
    have z : (((xs.size : Int) - 1) + (m : Int) * (-1)).toNat = xs.size - 1 - m := by omega
    rw [z, Array.getElem?_eq_getElem (by omega), List.getD_eq_getElem?_getD, List.getElem?_reverse (by rw [Array.length_toList]; exact hm), Array.length_toList, List.getElem?_eq_getElem (by rw [Array.length_toList]; omega)]
    rfl
  have e2 : ∀ (l : List Nat) (F : Nat → Option Value) (G : Nat → Value), (∀ m, m ∈ l → F m = some (G m)) → l.filterMap F = l.map G := fun l => by
    induction l with
    | nil => exact fun _ _ _ => rfl
    | cons a l ih =>
      intro F G hF
      rw [List.filterMap_cons, hF a List.mem_cons_self, List.map_cons, ih F G fun m hm => hF m (List.mem_cons_of_mem _ hm)]
  rw [e2 _ _ _ e]
  refine List.ext_getElem ?_ fun i h1 h2 => ?_
  · rw [List.length_map, List.length_range, List.length_reverse, Array.length_toList]
  · rw [List.getElem_map, List.getElem_range, List.getD_eq_getElem?_getD, List.getElem?_eq_getElem h2]
    rfl
theorem getRevT {t sl : Addr} {items : Array Value} {vl vu vs : Value} {Q : Value → Shared → Prop} (ht : IsTup s.heap t items) (hs : s.heap.IsSliceOf sl vl vu vs) (pl : IsPart vl none) (pu : IsPart vu none) (ps : IsPart vs (some (-1)))
    (h : Q (.ref s.heap.objs.size) { s with heap := s.heap.push { cls := .type "tuple", data := .seq items.toList.reverse.toArray } }) (hsz : items.size ≤ sizeLine) : wpAny (model prog w) A (getItem (.ref t) (.ref sl)) Q E s := by
  have hz : sizeOk (.seq items.toList.reverse.toArray) := by
    show items.toList.reverse.toArray.size ≤ sizeLine
    rw [List.size_toArray, List.length_reverse, Array.length_toList]
    exact hsz
  obtain ⟨os, hos, hcs, hds⟩ := id hs
  have ty : s.TypeIs (.ref sl) "slice" := ⟨os, hos, hcs⟩
  unfold getItem
  try with_reducible refine wpAny_holding ?_
  first | refine wpAny_bind (wpAny_pure ?_) | skip
  refine wpAny_bind (wpAny_sequenceKey ht.typeIs (by decide) ?_)
  refine wpAny_bind (wpAny_callSpecial?_slot (name := Str.ofString "__getitem__") ht.typeIs PyProof.Rows.slot_tuple_getitem (wpAny_call_entry PyProof.Rows.slot_tuple_getitem ht.typeIs entry_tuple_getitem ?_ (args_tuple_getitem _ _)))
  show wpAny _ _ (Builtin.Tuple.tupleItemsOf (.ref t) >>= _) _ _ s
  refine wpAny_bind (tupleItemsOf_ ht (wpAny_bind (wpAny_typeOf ty ?_)))
  rw [if_pos (by decide)]
  refine wpAny_bind ?_
  unfold Builtin.Slice.sliceApplied Builtin.Slice.sliceFields
  refine wpAny_bind (wpAny_bind (wpAny_field hos hds (x := vl) rfl (wpAny_bind (wpAny_field hos hds (x := vu) rfl (wpAny_bind (wpAny_field hos hds (x := vs) rfl (wpAny_pure ?_)))))))
  refine wpAny_bind (HT.slicePart_ ps ?_)
  show wpAny _ _ (if ((-1 : Int) == 0) = true then _ else _) _ _ s
  rw [if_neg (by decide)]
  refine wpAny_bind (HT.slicePart_ pl (wpAny_bind (HT.slicePart_ pu (wpAny_bind (wpAny_pure ?_)))))
  have ea : Builtin.Slice.sliceAdjust none none (-1) (items.size : Int) = ((items.size : Int) - 1, -1) := by
    unfold Builtin.Slice.sliceAdjust
    simp
  have ep : Builtin.Slice.slicePlaces ((items.size : Int) - 1) (-1) (-1) = items.size := by
    unfold Builtin.Slice.slicePlaces
    simp
    try omega
  show wpAny _ _ (match Builtin.Slice.sliceAdjust none none (-1) (items.size : Int) with | (lo, hi) => pure (lo, (-1 : Int), Builtin.Slice.slicePlaces lo hi (-1))) _ _ s
  rw [ea]
  show wpAny _ _ (pure (((items.size : Int) - 1), (-1 : Int), Builtin.Slice.slicePlaces ((items.size : Int) - 1) (-1) (-1))) _ _ s
  rw [ep]
  refine wpAny_pure ?_
  show wpAny _ _ (if (((items.size : Int) - 1) == 0 && (-1 : Int) == 1 && items.size == items.size) = true then _ else _) _ _ s
  rw [if_neg (by simp), rev_pick]
  first
    | exact wpAny_bind (m := Builtin.Tuple.tupleExact _) (wpAny_newObj_type (wpAny_pure ⟨_, rfl, wpAny_pure h⟩) hz)
    | exact wpAny_bind (m := Builtin.Tuple.tupleExact _) (wpAny_newObj_type (wpAny_bind (wpAny_pure (wpAny_pure ⟨_, rfl, wpAny_pure h⟩))) hz)
    | exact wpAny_bind (wpAny_bind (m := Builtin.Tuple.tupleExact _) (wpAny_newObj_type (wpAny_pure (wpAny_pure ⟨_, rfl, wpAny_pure h⟩)) hz))
    | exact wpAny_bind (wpAny_bind (m := Builtin.Tuple.tupleExact _) (wpAny_newObj_type (wpAny_pure ⟨_, rfl, wpAny_pure h⟩) hz))
end
def revK (v : DV) (r : DEnv) : R (DV × DEnv) := match pk v r with
  | some (.list ds) => .ok (.own (.lst ds.reverse), r)
  | some (.tuple ds) => .ok (.dat (.tuple ds.reverse), r)
  | _ => .stuck
def dRev (f : DX) : DX := fun r => (opd f r).bind fun p => revK p.1 p.2
section
variable {X : Cx} {W : WX} {e : Expr} {f : DX} {k : Nat} {p1 p2 p3 pos : Pos}
def tRevA (K : PySem.W.Frag) (te : TE) : TE := fun σ H Q => te σ H fun x H1 => ∃ a xs, x = .ref a ∧ ((SqL K H1 a xs ∧ ∀ p, H1 p = none → Q (.ref p) (upd H1 p (.lst xs.reverse))) ∨ (SqT K H1 a xs ∧ ∀ p, H1 p = none → Q (.ref p) (upd H1 p (.tup xs.reverse))))
theorem pe_revA {te : TE} (he : PE X e te) : PE X (.Subscript e (.Slice none none (some (.UnaryOp .USub (.Constant (.int 1) k p1) p2)) p3) pos) (tRevA X.K te) := by
  refine ⟨fun pins s σ H Q I h => ?_⟩
  refine Subscript_ (thn (he.run pins s σ H _ I h) fun v s1 ⟨x, H1, I1, r1, q1⟩ => ?_)
  obtain ⟨a, xs, ex, hx⟩ := q1
  subst ex
  cases r1
  have hst : PO X (some (.UnaryOp .USub (.Constant (.int 1) k p1) p2)) (tPart (tUn (rU fun i => .int (-i)) (tC (.int 1)))) := po_some (pe_un un_neg pe_int)
  refine wpAny_Slice (thn (po_none.run pins s1 σ H1 (fun o H2 => o = none ∧ H2 = H1) I1 ⟨rfl, rfl⟩) fun vl s2 ⟨l, H2, I2, pl, el, e2⟩ => ?_)
  subst el e2
  refine thn (po_none.run pins s2 σ H2 (fun o H3 => o = none ∧ H3 = H2) I2 ⟨rfl, rfl⟩) fun vu s3 ⟨u, H3, I3, pu, eu, e3⟩ => ?_
  subst eu e3
  refine thn (hst.run pins s3 σ H3 (fun o H4 => o = some (-1) ∧ H4 = H3) I3 ⟨1, rfl, -1, rfl, rfl, rfl⟩) fun vs s4 ⟨o, H4, I4, ps, eo, e4⟩ => ?_
  subst eo e4
  generalize hs5 : ({ s4 with heap := s4.heap.push { cls := .type "slice", data := .fields #[vl, vu, vs] } } : Shared) = s5
  have I5 : Inv X pins σ H4 s5 := by rw [← hs5]; exact I4.kept (t' := s4.toks) fun b ob q => Heap.get?_push_of_some _ q
  have hsl : s5.heap.IsSliceOf s4.heap.objs.size vl vu vs := by rw [← hs5]; exact Heap.IsSliceOf.new _ vl vu vs
  rcases hx with ⟨hx, q⟩ | ⟨hx, q⟩
  · obtain ⟨its, r, ht, hz⟩ := I5.list hx
    have hlen := r.length
    refine tail_any (ops := [.ref a, .ref s4.heap.objs.size]) ht.isList.typeIs (PySem.slot_list_getitem.lookup) ?_ (by with_unfolding_all rfl)
    refine wpAny_getItem_list_slice ht.isList hsl pl pu ps (by decide) ?_ (by rw [List.size_toArray]; omega)
    rw [PySem.W.krv_pick]
    refine ⟨.ref _, _, I5.laid (t' := s5.toks) (o := .lst xs.reverse) (fun b ob z => Heap.get?_push_of_some _ z) (Nat.le_refl _) ?_, rfl, q _ (I5.hok.fresh (Nat.le_refl _))⟩
    exact ⟨by rw [List.length_reverse]; exact hz, _, 0, r.reverse, Heap.get?_push_size _ rfl⟩
  · obtain ⟨its, r, ht, hz⟩ := I5.tuple hx
    have hlen := r.length
    refine tail_any (ops := [.ref a, .ref s4.heap.objs.size]) ht.typeIs (PyProof.Rows.slot_tuple_getitem.lookup) ?_ (by with_unfolding_all rfl)
    refine getRevT ht hsl pl pu ps ?_ (by rw [List.size_toArray]; omega)
    refine ⟨.ref _, _, I5.laid (t' := s5.toks) (o := .tup xs.reverse) (fun b ob z => Heap.get?_push_of_some _ z) (Nat.le_refl _) ?_, rfl, q _ (I5.hok.fresh (Nat.le_refl _))⟩
    exact ⟨by rw [List.length_reverse]; exact hz, _, r.reverse, _, Heap.get?_push_size _ rfl, rfl, 0, rfl⟩
theorem eRev (hf : DE X W e f) : DE X W (.Subscript e (.Slice none none (some (.UnaryOp .USub (.Constant (.int 1) k p1) p2)) p3) pos) (dRev f) := fun fr T =>
  pe_imp (pe_revA (hf fr T)) fun s H Q ⟨G, r, rel, o⟩ => by
    refine opd_bindO (g := fun u r1 => revK u r1) (ocX Q) rel o fun G1 r1 v H1 dv m rel1 ov o1 => ?_
    have o1 : out X W fr T G1 s (revK dv r1) Q := o1
    unfold revK at o1
    split at o1
    · rename_i ds hp
      obtain ⟨a, vs, rfl, ha, da⟩ := opr_lst (opr_of rel1 ov hp) rel1.sub
      exact ⟨a, vs, rfl, .inl ⟨SqL.of ha, fun p hp => o1 _ _ ((rp_lst hp da.reverse).post rel1)⟩⟩
    · rename_i ds hp
      obtain ⟨a, vs, rfl, ha, da, _⟩ := opr_tup (opr_of rel1 ov hp) rel1.sub
      exact ⟨a, vs, rfl, .inr ⟨SqT.of ha, fun p hp => o1 _ _ ((rp_tup rel1.sub hp da.reverse).post rel1)⟩⟩
    · exact o1.elim
end
end Dn
namespace Dn
open PySem PySem.Spec PyProof.Rows L2
/-! ### a table of defs at the top: D.get(x) -/
abbrev STab := List (Str × Str)
structure TabK (K : PySem.W.Frag) (w : World) (mg : Str → Option Value) (x : Str) (tab : STab) : Prop where
  ex : ∃ a es n, mg x = some (.ref a) ∧ KDict K w a es n ∧ ∀ z, findBy Value.isStrOf es z = (tab.lookup z).map fun f => Value.ref (He.fAd K (f, none))
def tabRow (K : PySem.W.Frag) (tab : STab) : List (Str × Value) := tab.map fun q => (q.1, .ref (He.fAd K (q.2, none)))
def entRow (K : PySem.W.Frag) (a : Addr) : List (Str × Value) := match K.lookup a with
  | some ⟨_, _, .dict es _, _⟩ => es.toList.map fun e => (match e.key with
    | .str x _ => x
    | _ => "", e.val)
  | _ => []
def tabB (x : Str) (tab : STab) (K : PySem.W.Frag) : Bool := decide (entRow K (He.ga K x) = tabRow K tab)
theorem find_row {P : Params} : ∀ {l : List DictEntry} {rows : List (Str × Value)}, PySem.W.KeysLit P l → (l.map fun e => ((match e.key with
    | .str x _ => x
    | _ => ""), e.val)) = rows → ∀ z : Str, (l.find? fun e => Value.isStrOf z e.key).map (·.val) = rows.lookup z
  | [], _, _, rfl, z => rfl
  | e :: l, _, ⟨⟨x, t, e1, _⟩, r⟩, rfl, z => by
    have ih := find_row r rfl z
    rw [List.find?_cons, List.map_cons, List.lookup_cons, e1]
    show Option.map (·.val) (match x == z with
      | true => some e
      | false => l.find? fun e => Value.isStrOf z e.key) = (match z == x with
      | true => some e.val
      | false => List.lookup z (l.map fun e => ((match e.key with
        | .str x _ => x
        | _ => ""), e.val)))
    by_cases h : x = z
    · subst h
      rw [beq_self_eq_true]
      rfl
    · have h1 : (x == z) = false := by simpa using h
      have h2 : (z == x) = false := by simpa using Ne.symm h
      rw [h1, h2]
      exact ih
theorem lookup_row (K : PySem.W.Frag) : ∀ (tab : STab) (z : Str), (tabRow K tab).lookup z = (tab.lookup z).map fun f => Value.ref (He.fAd K (f, none))
  | [], z => rfl
  | (k, f) :: tab, z => by
    show List.lookup z ((k, Value.ref (He.fAd K (f, none))) :: tabRow K tab) = _
    rw [List.lookup_cons, List.lookup_cons, lookup_row K tab z]
    cases z == k <;> rfl
theorem tabK_of {K : PySem.W.Frag} {w : World} {mg : Str → Option Value} {x : Str} {tab : STab} (hm : mg x = some (.ref (He.ga K x))) (hk : ∃ es n, KDict K w (He.ga K x) es n) (hb : tabB x tab K = true) : TabK K w mg x tab := by
  obtain ⟨es, n, D⟩ := hk
  refine ⟨_, es, n, hm, D, fun z => ?_⟩
  have e := of_decide_eq_true hb
  unfold entRow at e
  rw [D.at_] at e
  rw [← lookup_row, ← find_row D.lit e]
  obtain ⟨l⟩ := es
  simp [findBy]
def tabK (tab : STab) (v : DV) (r : DEnv) : R (DV × DEnv) := match pk v r with
  | some (.str z) => (match tab.lookup z with
    | some f => .ok (.fn f, r)
    | none => .ok (.dat .none, r))
  | _ => .stuck
def dTab (tab : STab) (f : DX) : DX := fun r => (opd f r).bind fun p => tabK tab p.1 p.2
section
variable {X : Cx} {W : WX} {x : Str} {e : Expr} {f : DX} {np apos pos : Pos} {tab : STab}
theorem eTab (T : TabK X.K X.w X.mg x tab) (hmg : ∀ z g, tab.lookup z = some g → X.mg g = some (.ref (He.fAd X.K (g, none)))) (hf : DE X W e f) (hg : Gl X x := by rfl) (hd : (x == ("__debug__" : Str)) = false := by decide)
    (base : attributeBase (.Name x np) "get" X.env (eval (.Name x np) X.env) = eval (.Name x np) X.env := by rfl)
    (few : ((backTo pos (starEach [e] X.env)).all (fun x => !x.1) && (backToKw pos (keywordEach [] X.env)).all (fun x => x.1.isSome) && decide (([e] : List Expr).length + ([] : List Keyword).length + (if ([] : List Keyword).isEmpty then 0 else 1) < 30)) = true := by rfl)
    (line : (apos.endLine == pos.line) = true := by rfl) (trees : backTo pos (starEach [e] X.env) = [(false, eval e X.env)] := by rfl) :
    DE X W (.Call (.Attribute (.Name x np) "get" apos) [e] [] pos) (dTab tab f) := fun fr T' => by
  obtain ⟨a, es, n, hm, D, hl⟩ := T.ex
  refine ⟨fun pins s σ H Q I ⟨G, r, rel, o⟩ => ?_⟩
  refine wpAny_Call_method base few line PySem.F.plainAttrs_dict PySem.F.slot_dict_get PySem.F.type_dict_get (ld_glob I hg hm ?_ hd)
  refine ⟨kd_type D I, (PySem.W.mapOf_K (prog := X.prog) (w := X.w) I.kIn D.at_ D.lit).noDict, ?_⟩
  rw [trees]
  refine wpAny_dict_get1 (knd := strKind X.prog X.w) D.low ?_
  have t : tD X W fr T' f σ H fun v H1 => ∃ z, v = .str z ∧ ∀ u, (tab.lookup z).map (fun f => Value.ref (He.fAd X.K (f, none))) = u → ∃ v', RelV v' (u.getD .none) ∧ Q v' H1 := by
    refine opd_bindO (g := fun v r1 => tabK tab v r1) (ocX Q) rel o fun G1 r1 v H1 dv m rel1 ov o1 => ?_
    have o1 : out X W fr T' G1 σ (tabK tab dv r1) Q := o1
    unfold tabK at o1
    split at o1
    · rename_i z hp
      obtain rfl := opr_str (opr_of rel1 ov hp)
      refine ⟨z, rfl, fun u hu => ?_⟩
      subst hu
      split at o1
      · rename_i g hgl
        rw [hgl]
        exact ⟨.ref _, rfl, o1 _ H1 ⟨G1, .refl _, rel1, _, rfl, hmg z g hgl⟩⟩
      · rename_i hgl
        rw [hgl]
        exact ⟨.non, rfl, o1 _ H1 ⟨G1, .refl _, rel1, .non⟩⟩
    · exact o1.elim
  refine thn ((hf fr T').run pins s σ H _ I t) fun u s1 ⟨v, H1, I1, rv, z, ev, hq⟩ => ?_
  subst ev
  obtain ⟨tk, rfl⟩ := rv
  obtain ⟨v', rv', q⟩ := hq _ rfl
  refine ⟨z, _, strKind_is X.prog X.w z tk, PySem.W.mapOf_K (prog := X.prog) (w := X.w) I1.kIn D.at_ D.lit, v', H1, I1.tok _, ?_, q⟩
  rw [hl z]
  exact rv'
end
/-! ### wanted ends of the new readings -/
section
variable {r : DEnv} {E : EX} (Q : DV → DEnv → Prop)
theorem wX_fn (f : Str) : wX (dFn f) r Q E = Q (.fn f) r := nr rfl
theorem fnAt_eq (r : DEnv) (i : Nat) : fnAt r i = (match r[i]? with
  | some (some (.fn f)) => some f
  | _ => none) := nr rfl
def fnO : Option (Option Sl) → Option Str
  | some (some (.fn f)) => some f
  | _ => none
theorem fnO_fn (f : Str) : fnO (some (some (.fn f))) = some f := nr rfl
theorem wX_callV (tab : FTab) (i : Nat) (md : List Bool) (fa : DA) : wX (dCallV tab i md fa) r Q E = optQ (fnO r[i]?) fun f => optQ (tab.lookup f) fun φ => wA fa r (fun dvs r1 => wC φ md dvs r1 Q E) E := by
  unfold wX dCallV
  have e : fnAt r i = fnO r[i]? := by unfold fnAt fnO; rfl
  rw [e]
  cases fnO r[i]? with
  | none => rfl
  | some f =>
    rw [optQ_some]
    dsimp only
    cases tab.lookup f with
    | none => rfl
    | some φ =>
      rw [optQ_some]
      dsimp only
      rw [okQ_bind]
      unfold wA
      congr 1
      funext p
      exact okQ_callK _ _ _ _
def isNQ (neg : Bool) (z : Option (Option Sl)) (Q : Bool → Prop) : Prop := match z with
  | some (some (.fn _)) => Q neg
  | some (some (.dat .none)) => Q (!neg)
  | _ => False
theorem isNQ_fn (neg : Bool) (f : Str) (P : Bool → Prop) : isNQ neg (some (some (.fn f))) P = P neg := nr rfl
theorem isNQ_none (neg : Bool) (P : Bool → Prop) : isNQ neg (some (some (.dat .none))) P = P (!neg) := nr rfl
theorem wX_isNV (neg : Bool) (i : Nat) : wX (dIsNV neg i) r Q E = isNQ neg r[i]? fun b => Q (.dat (.bool b)) r := by
  unfold wX dIsNV isNoneV isNQ
  generalize r[i]? = z
  cases z with
  | none => rfl
  | some z =>
    cases z with
    | none => rfl
    | some z =>
      cases z with
      | dat d => cases d <;> rfl
      | _ => rfl
theorem wX_tab (tab : STab) (f : DX) : wX (dTab tab f) r Q E = wO f r (fun v r1 => optQ (pk v r1) fun d => ∃ z, d = .str z ∧ match tab.lookup z with
  | some g => Q (.fn g) r1
  | none => Q (.dat .none) r1) E := by
  unfold wX dTab wO
  rw [okQ_bind]
  congr 1
  funext p
  unfold tabK
  dsimp only
  cases pk p.1 p.2 with
  | none => rfl
  | some d =>
    rw [optQ_some]
    cases d with
    | str z =>
      dsimp only
      refine propext ⟨fun h => ⟨z, rfl, ?_⟩, fun ⟨z', e, h⟩ => ?_⟩
      · cases hl : tab.lookup z with
        | none => rw [hl] at h; exact h
        | some g => rw [hl] at h; exact h
      · cases e
        cases hl : tab.lookup z with
        | none => rw [hl] at h; exact h
        | some g => rw [hl] at h; exact h
    | _ => simp [okQ]
theorem wX_isi {T : String} (f : DX) : wX (dIsi T f) r Q E = wO f r (fun v r1 => optQ (pk v r1) fun d => optQ (kitB (tyN d) T) fun b => Q (.dat (.bool b)) r1) E := by
  unfold wX dIsi wO
  rw [okQ_bind]
  congr 1
  funext p
  unfold isiK
  dsimp only
  cases pk p.1 p.2 with
  | none => rfl
  | some d =>
    show okQ _ E (match kitB (tyN d) T with | some b => _ | none => _) = optQ (kitB (tyN d) T) _
    cases kitB (tyN d) T <;> rfl
theorem wX_isi2 {T U : String} (f : DX) : wX (dIsi2 T U f) r Q E = wO f r (fun v r1 => optQ (pk v r1) fun d => isDict d = false ∧ Q (.dat (.bool (isiB T d || isiB U d))) r1) E := by
  unfold wX dIsi2 wO
  rw [okQ_bind]
  congr 1
  funext p
  unfold isi2K
  dsimp only
  cases pk p.1 p.2 with
  | none => rfl
  | some d =>
    rw [optQ_some]
    dsimp only
    cases hd : isDict d with
    | true => simp [okQ]
    | false => simp [okQ]
def boolQ (v : DV) (T F : Prop) : Prop := match v with
  | .dat (.bool true) => T
  | .dat (.bool false) => F
  | _ => False
theorem boolQ_b (b : Bool) (T F : Prop) : boolQ (.dat (.bool b)) T F = if b = true then T else F := by cases b <;> simp [boolQ]
theorem wX_chain (op op2 : Op2) (f g h : DX) : wX (dChain op op2 f g h) r Q E = wO f r (fun a r1 => wO g r1 (fun b r2 => optQ (pk a r2) fun x => optQ (pk b r2) fun y => optQ (op x y) fun dv => boolQ dv (wO h r2 (fun c r3 => optQ (pk b r3) fun x => optQ (pk c r3) fun y => optQ (op2 x y) fun dv => Q dv r3) E) (Q (.dat (.bool false)) r2)) E) E := by
  have bin : ∀ (op : Op2) (a b : DV) (r : DEnv) (Q : DV × DEnv → Prop), okQ Q E (binK op a b r) = optQ (pk a r) fun x => optQ (pk b r) fun y => optQ (op x y) fun dv => Q (dv, r) := fun op a b r Q => by
    unfold binK
    cases pk a r with
    | none => rfl
    | some x =>
      cases pk b r with
      | none => rfl
      | some y =>
        show okQ _ E (match op x y with | some dv => _ | none => _) = optQ (op x y) _
        cases op x y <;> rfl
  unfold wX dChain wO
  rw [okQ_bind]
  congr 1
  funext p
  rw [okQ_bind]
  congr 1
  funext q
  rw [okQ_bind, bin]
  congr 1
  funext x
  congr 1
  funext y
  congr 1
  funext dv
  unfold boolK boolQ
  dsimp only
  cases dv with
  | dat d =>
    cases d with
    | bool b =>
      cases b with
      | false => rfl
      | true =>
        dsimp only
        rw [okQ_bind]
        congr 1
        funext t
        exact bin _ _ _ _ _
    | _ => rfl
  | _ => rfl
theorem wX_neg (f : DX) : wX (dNeg f) r Q E = wO f r (fun v r1 => ∃ i, v = .dat (.int i) ∧ Q (.dat (.int (-i))) r1) E := by
  unfold wX dNeg wO
  rw [okQ_bind]
  congr 1
  funext p
  obtain ⟨v, r1⟩ := p
  unfold negK
  cases v with
  | dat d =>
    cases d with
    | int b => simp [okQ]
    | _ => simp [okQ]
  | _ => simp [okQ]
def revQ (d : PyData) (Q : DV → Prop) : Prop := match d with
  | .list ds => Q (.own (.lst ds.reverse))
  | .tuple ds => Q (.dat (.tuple ds.reverse))
  | _ => False
theorem revQ_t (ds : List PyData) (P : DV → Prop) : revQ (.tuple ds) P = P (.dat (.tuple ds.reverse)) := nr rfl
theorem revQ_l (ds : List PyData) (P : DV → Prop) : revQ (.list ds) P = P (.own (.lst ds.reverse)) := nr rfl
theorem wX_rev (f : DX) : wX (dRev f) r Q E = wO f r (fun v r1 => optQ (pk v r1) fun d => revQ d fun v => Q v r1) E := by
  unfold wX dRev wO
  rw [okQ_bind]
  congr 1
  funext p
  unfold revK
  dsimp only
  cases pk p.1 p.2 with
  | none => rfl
  | some d => cases d <;> rfl
theorem mulX_str (z : Str) (n : Int) : mulX (.str z) (.int n) = if z.length ≤ 1000 ∧ -1000 ≤ n ∧ n ≤ 1000 then some (.dat (.str (repS z n))) else none := nr rfl
theorem mulX_int (i j : Int) : mulX (.int i) (.int j) = if CMul i j then some (.dat (.int (i * j))) else none := nr rfl
theorem mulX_list (xs : List PyData) (i : Int) : mulX (.list xs) (.int i) = mulD (.list xs) (.int i) := nr rfl
theorem mulX_tuple (xs : List PyData) (i : Int) : mulX (.tuple xs) (.int i) = if xs ≠ [] ∧ 2 ≤ i ∧ i ≤ 1000 ∧ xs.length ≤ 1000 then some (.dat (.tuple (List.replicate i.toNat xs).flatten)) else none := nr rfl
end
end Dn
namespace Dn
open PySem PySem.Spec PyProof.Rows L2
theorem dss_stuck {X : Cx} {W : WX} {body : List Stmt} : DSs X W body dStuck := fun fr => ⟨fun pins s σ H D I ⟨G, r, rel, o⟩ => o.elim⟩
end Dn
local macro_rules
  | `(tactic| simp_arith) => `(tactic| simp only [seval, Dn.wipeD, Dn.restoreD, Dn.ownFree, Dn.setAllD, Dn.putBack, Dn.perm, Dn.optQ_some, Dn.optQ_none, Dn.optQ_ite, Dn.wX_C, Dn.wO_eq, Dn.wZ_eq, Dn.wX_bin, Dn.wX_if, Dn.wX_andV, Dn.wX_orV, Dn.wX_notV, Dn.wT_B, Dn.wT_and, Dn.wT_or, Dn.wT_not, Dn.wT_yes, Dn.wA_nil, Dn.wA_cons, Dn.wD_nil, Dn.wD_cons, Dn.wP_nil, Dn.wP_cons, Dn.wX_tup, Dn.wX_lst, Dn.wX_cb, Dn.wN_no, Dn.wN_part, Dn.wX_slice, Dn.wX_m, Dn.wX_lr2, Dn.wX_lr1, Dn.wC, Dn.wX_call, Dn.wX_callP, Dn.wS_skip, Dn.wS_break, Dn.wS_cont, Dn.wS_stuck, Dn.wS_retN, Dn.wS_drop, Dn.wS_ret, Dn.wS_if, Dn.wS_set, Dn.wS_un, Dn.wS_put, Dn.wS_par, Dn.wI_any, Dn.wI_rng, Dn.wS_for, Dn.wX_lc, Dn.wX_v, Dn.varQ_dat, Dn.varQ_own, Dn.varQ_fn, Dn.varQ_scr, Dn.opQ_dat, Dn.opQ_loc, Dn.opQ_fn, Dn.opQ_scr, Dn.opQ_own, Dn.pk_dat, Dn.pk_loc, Dn.pkAt_dat, Dn.pkAt_own, Dn.frz_dat, Dn.frz_own, Dn.frz_loc, Dn.frzAt_dat, Dn.frzAt_own, Dn.keepV_T, Dn.keepV_F, Dn.keepV_d, Dn.keepV_l, Dn.setK_dat, Dn.setK_T, Dn.setK_F, Dn.setK_fn, Dn.setK_loc, Dn.ownL_own, Dn.upd1_at, Dn.updAt_own, Dn.updAt_dat, Dn.pName_f, Dn.psNil_f, Dn.psCons_f, Dn.psCons_n, Dn.psNil_n, Dn.pTup_f, Dn.turnQ_nx, Dn.turnQ_ct, Dn.turnQ_bk, Dn.turnQ_rt, Dn.turnQ_exc, Dn.retQ_dat, Dn.retQ_own, Dn.retQ_loc, Dn.retL_own, Dn.retL_dat, Dn.endQ_nx, Dn.endQ_rt, Dn.endQ_exc, Dn.finQ_dat, Dn.finQ_own, Dn.coll_nil, Dn.coll_own, Dn.coll_dat, Dn.coll_scr, Dn.coll_fn, Dn.frzA_nil, Dn.frzA_loc, Dn.frzA_locT, Dn.frzA_dat, Dn.frzA_scr, Dn.frzA_fn, Dn.colA_nil, Dn.colA_dat, Dn.colA_fn, Dn.colA_scr, Dn.ownOb_own, Dn.colA_loc, Dn.pks_nil, Dn.pks_cons, Dn.slQ_scr, Dn.slQ_dat, Dn.slQ_loc, Dn.slD_list, Dn.slD_tuple, Dn.slD_str, Dn.addD_int, Dn.addD_str, Dn.addD_list, Dn.addD_tuple, Dn.subD_int, Dn.fdivD_int, Dn.modD_int, Dn.powD_int, Dn.mulD_int, Dn.mulD_list, Dn.eqD_if, Dn.neD_if, Dn.ltD_int, Dn.leD_int, Dn.gtD_int, Dn.geD_int, Dn.inL_list, Dn.inL_tuple, Dn.isN_none, Dn.isN_int, Dn.isN_str, Dn.isN_bool, Dn.isN_tuple, Dn.isN_list, Dn.op1_1, Dn.op2_2, Dn.lenD_list, Dn.lenD_tuple, Dn.lenD_str, Dn.tupleD_list, Dn.tupleD_tuple, Dn.listD_list, Dn.listD_tuple, Dn.intD_int, Dn.intD_bool, Dn.min2D_int, Dn.max2D_int, Dn.sortD_list, Dn.reprD_if, Dn.onA_list, Dn.onA_tuple, Dn.onA_str, Dn.onS_list, Dn.onS_tuple, Dn.rng1_int, Dn.rng2_int, Dn.ixD_list, Dn.ixD_tuple, Dn.appendO_1, Dn.popO_1, Dn.ixN_nat, Dn.ixN_lit, Dn.atI_nat, Dn.atI_lit, Dn.zz_g0, Dn.zz_gs, Dn.zz_gn, Dn.zz_s0, Dn.zz_ss, Dn.zz_lc, Dn.zz_ln, Dn.zz_lm, Dn.zz_ca, Dn.zz_na, Dn.zz_ac, Dn.zz_an, Dn.zz_gd, Dn.zz_gdn, Dn.zz_fc, Dn.zz_fn, Dn.zz_dn, Dn.zz_dc, Dn.zz_mn, Dn.zz_ed, Dn.zz_eb, Dn.zz_ei, Dn.zz_es, Dn.zz_et, Dn.zz_el, Dn.zz_x1, Dn.zz_x2, Dn.zz_at, Dn.zz_ta, Dn.zz_bt, Dn.zz_tb, Dn.zz_it, Dn.zz_if, Dn.zz_ft, Dn.zz_tt, Dn.zz_nt, Dn.zz_nf, Dn.zz_nff, Dn.zz_is, Dn.zz_to, Dn.zz_ot, Dn.zz_fo, Dn.zz_fa, Dn.zz_af, Dn.leaf_n, Dn.leaf_b, Dn.leaf_i, Dn.leaf_s, Dn.leaf_t, Dn.leaf_l, Dn.leafs_n, Dn.leafs_c, Dn.leafs_s, Dn.leafs_i, Dn.shaped_n, Dn.shaped_b, Dn.shaped_i, Dn.zz_rf, Dn.wI_enum1, Dn.wX_sortSet, Dn.wX_lenSet, Dn.wX_sortSc, Dn.sz0, Dn.sz1, Dn.sz2, Dn.sz3, Dn.sz4, Dn.sz5, Dn.sz6, Dn.sz7, Dn.sz8, Dn.sz9, Dn.sz10, Dn.sz11, Dn.sz12, Dn.sz13, Dn.sz14, Dn.sz15, Dn.sz16, Dn.wX_fn, Dn.fnO_fn, Dn.wX_callV, Dn.isNQ_fn, Dn.isNQ_none, Dn.wX_isNV, Dn.wX_tab, Dn.wX_isi, Dn.wX_isi2, Dn.boolQ_b, Dn.wX_chain, Dn.wX_neg, Dn.revQ_t, Dn.revQ_l, Dn.wX_rev, Dn.mulX_str, Dn.mulX_int, Dn.mulX_list, Dn.mulX_tuple, Nat.reduceAdd, Nat.reduceSub, Nat.reduceLT, Nat.reduceLeDiff, Nat.reduceEqDiff])
  | `(tactic| simp_arith [$xs,*]) => `(tactic| simp only [seval, Dn.wipeD, Dn.restoreD, Dn.ownFree, Dn.setAllD, Dn.putBack, Dn.perm, Dn.optQ_some, Dn.optQ_none, Dn.optQ_ite, Dn.wX_C, Dn.wO_eq, Dn.wZ_eq, Dn.wX_bin, Dn.wX_if, Dn.wX_andV, Dn.wX_orV, Dn.wX_notV, Dn.wT_B, Dn.wT_and, Dn.wT_or, Dn.wT_not, Dn.wT_yes, Dn.wA_nil, Dn.wA_cons, Dn.wD_nil, Dn.wD_cons, Dn.wP_nil, Dn.wP_cons, Dn.wX_tup, Dn.wX_lst, Dn.wX_cb, Dn.wN_no, Dn.wN_part, Dn.wX_slice, Dn.wX_m, Dn.wX_lr2, Dn.wX_lr1, Dn.wC, Dn.wX_call, Dn.wX_callP, Dn.wS_skip, Dn.wS_break, Dn.wS_cont, Dn.wS_stuck, Dn.wS_retN, Dn.wS_drop, Dn.wS_ret, Dn.wS_if, Dn.wS_set, Dn.wS_un, Dn.wS_put, Dn.wS_par, Dn.wI_any, Dn.wI_rng, Dn.wS_for, Dn.wX_lc, Dn.wX_v, Dn.varQ_dat, Dn.varQ_own, Dn.varQ_fn, Dn.varQ_scr, Dn.opQ_dat, Dn.opQ_loc, Dn.opQ_fn, Dn.opQ_scr, Dn.opQ_own, Dn.pk_dat, Dn.pk_loc, Dn.pkAt_dat, Dn.pkAt_own, Dn.frz_dat, Dn.frz_own, Dn.frz_loc, Dn.frzAt_dat, Dn.frzAt_own, Dn.keepV_T, Dn.keepV_F, Dn.keepV_d, Dn.keepV_l, Dn.setK_dat, Dn.setK_T, Dn.setK_F, Dn.setK_fn, Dn.setK_loc, Dn.ownL_own, Dn.upd1_at, Dn.updAt_own, Dn.updAt_dat, Dn.pName_f, Dn.psNil_f, Dn.psCons_f, Dn.psCons_n, Dn.psNil_n, Dn.pTup_f, Dn.turnQ_nx, Dn.turnQ_ct, Dn.turnQ_bk, Dn.turnQ_rt, Dn.turnQ_exc, Dn.retQ_dat, Dn.retQ_own, Dn.retQ_loc, Dn.retL_own, Dn.retL_dat, Dn.endQ_nx, Dn.endQ_rt, Dn.endQ_exc, Dn.finQ_dat, Dn.finQ_own, Dn.coll_nil, Dn.coll_own, Dn.coll_dat, Dn.coll_scr, Dn.coll_fn, Dn.frzA_nil, Dn.frzA_loc, Dn.frzA_locT, Dn.frzA_dat, Dn.frzA_scr, Dn.frzA_fn, Dn.colA_nil, Dn.colA_dat, Dn.colA_fn, Dn.colA_scr, Dn.ownOb_own, Dn.colA_loc, Dn.pks_nil, Dn.pks_cons, Dn.slQ_scr, Dn.slQ_dat, Dn.slQ_loc, Dn.slD_list, Dn.slD_tuple, Dn.slD_str, Dn.addD_int, Dn.addD_str, Dn.addD_list, Dn.addD_tuple, Dn.subD_int, Dn.fdivD_int, Dn.modD_int, Dn.powD_int, Dn.mulD_int, Dn.mulD_list, Dn.eqD_if, Dn.neD_if, Dn.ltD_int, Dn.leD_int, Dn.gtD_int, Dn.geD_int, Dn.inL_list, Dn.inL_tuple, Dn.isN_none, Dn.isN_int, Dn.isN_str, Dn.isN_bool, Dn.isN_tuple, Dn.isN_list, Dn.op1_1, Dn.op2_2, Dn.lenD_list, Dn.lenD_tuple, Dn.lenD_str, Dn.tupleD_list, Dn.tupleD_tuple, Dn.listD_list, Dn.listD_tuple, Dn.intD_int, Dn.intD_bool, Dn.min2D_int, Dn.max2D_int, Dn.sortD_list, Dn.reprD_if, Dn.onA_list, Dn.onA_tuple, Dn.onA_str, Dn.onS_list, Dn.onS_tuple, Dn.rng1_int, Dn.rng2_int, Dn.ixD_list, Dn.ixD_tuple, Dn.appendO_1, Dn.popO_1, Dn.ixN_nat, Dn.ixN_lit, Dn.atI_nat, Dn.atI_lit, Dn.zz_g0, Dn.zz_gs, Dn.zz_gn, Dn.zz_s0, Dn.zz_ss, Dn.zz_lc, Dn.zz_ln, Dn.zz_lm, Dn.zz_ca, Dn.zz_na, Dn.zz_ac, Dn.zz_an, Dn.zz_gd, Dn.zz_gdn, Dn.zz_fc, Dn.zz_fn, Dn.zz_dn, Dn.zz_dc, Dn.zz_mn, Dn.zz_ed, Dn.zz_eb, Dn.zz_ei, Dn.zz_es, Dn.zz_et, Dn.zz_el, Dn.zz_x1, Dn.zz_x2, Dn.zz_at, Dn.zz_ta, Dn.zz_bt, Dn.zz_tb, Dn.zz_it, Dn.zz_if, Dn.zz_ft, Dn.zz_tt, Dn.zz_nt, Dn.zz_nf, Dn.zz_nff, Dn.zz_is, Dn.zz_to, Dn.zz_ot, Dn.zz_fo, Dn.zz_fa, Dn.zz_af, Dn.leaf_n, Dn.leaf_b, Dn.leaf_i, Dn.leaf_s, Dn.leaf_t, Dn.leaf_l, Dn.leafs_n, Dn.leafs_c, Dn.leafs_s, Dn.leafs_i, Dn.shaped_n, Dn.shaped_b, Dn.shaped_i, Dn.zz_rf, Dn.wI_enum1, Dn.wX_sortSet, Dn.wX_lenSet, Dn.wX_sortSc, Dn.sz0, Dn.sz1, Dn.sz2, Dn.sz3, Dn.sz4, Dn.sz5, Dn.sz6, Dn.sz7, Dn.sz8, Dn.sz9, Dn.sz10, Dn.sz11, Dn.sz12, Dn.sz13, Dn.sz14, Dn.sz15, Dn.sz16, Dn.wX_fn, Dn.fnO_fn, Dn.wX_callV, Dn.isNQ_fn, Dn.isNQ_none, Dn.wX_isNV, Dn.wX_tab, Dn.wX_isi, Dn.wX_isi2, Dn.boolQ_b, Dn.wX_chain, Dn.wX_neg, Dn.revQ_t, Dn.revQ_l, Dn.wX_rev, Dn.mulX_str, Dn.mulX_int, Dn.mulX_list, Dn.mulX_tuple, Nat.reduceAdd, Nat.reduceSub, Nat.reduceLT, Nat.reduceLeDiff, Nat.reduceEqDiff, $xs,*])
namespace Dn
open PySem PySem.Spec PyProof.Rows L2
/-! ### + with a truth value at the left -/
def addZ : Op2
  | .bool b, .int j => some (.dat (.int ((if b = true then 1 else 0) + j)))
  | d, e => addD d e
section
variable {X : Cx}
theorem op_addZ : OpR X (binaryOp .Add) (rD addZ) := by
  intro pins s σ H x y v u Q I rx ry h
  obtain ⟨G, d, e, dv, m, hd, he, hop, q⟩ := h
  have old : addD d e = some dv → _ := fun z => op_addD pins s σ H x y v u Q I rx ry ⟨G, d, e, dv, m, hd, he, z, q⟩
  cases d <;> try (exact old hop)
  cases e <;> try (exact old hop)
  rename_i b j
  have hop : some (DV.dat (.int ((if b = true then 1 else 0) + j))) = some dv := hop
  cases hop
  obtain rfl := opr_bl hd
  obtain rfl := opr_int he
  obtain rfl : v = .bool b := rx
  obtain ⟨t, rfl⟩ := ry
  refine PySem.IntBool.add_bool_int ?_
  exact ⟨.int _, H, I.tok _, ⟨_, rfl⟩, q _ _ (rp_int m)⟩
end
section
variable (i j : Int) (b : Bool) (x y : Str) (xs ys : List PyData)
theorem addZ_bi : addZ (.bool b) (.int j) = some (.dat (.int ((if b = true then 1 else 0) + j))) := nr rfl
theorem addZ_ii : addZ (.int i) (.int j) = some (.dat (.int (i + j))) := nr rfl
theorem addZ_ss : addZ (.str x) (.str y) = if x.length + y.length ≤ sizeLine then some (.dat (.str (x ++ y))) else none := nr rfl
theorem addZ_ll : addZ (.list xs) (.list ys) = if xs.length + ys.length ≤ sizeLine then some (.own (.lst (xs ++ ys))) else none := nr rfl
theorem addZ_tt : addZ (.tuple xs) (.tuple ys) = if xs.length + ys.length ≤ sizeLine then some (.dat (.tuple (xs ++ ys))) else none := nr rfl
end
/-! ### data with bounds -/
mutual
def okB (b : Nat) : PyData → Bool
  | .none => true
  | .bool _ => true
  | .int i => decide (i.natAbs ≤ b)
  | .str x => PyData.strOk x
  | .list ds => okBs b ds
  | .tuple ds => okBs b ds
  | .dict _ => false
def okBs (b : Nat) : List PyData → Bool
  | [] => true
  | d :: ds => okB b d && okBs b ds
end
structure Good (b n w : Nat) (d : PyData) : Prop where
  o : okB b d = true
  dp : d.depth ≤ n
  wt : d.weight ≤ w
structure Goods (b n w : Nat) (ds : List PyData) : Prop where
  o : okBs b ds = true
  dp : PyData.depthAll ds ≤ n
  wt : PyData.weightAll ds ≤ w
theorem okB_up {b c : Nat} (h : b ≤ c) : (∀ d : PyData, okB b d = true → okB c d = true) ∧ (∀ ds : List PyData, okBs b ds = true → okBs c ds = true) := by
  have key : ∀ d : PyData, okB b d = true → okB c d = true := by
    intro d
    refine PyData.rec (motive_1 := fun d => okB b d = true → okB c d = true) (motive_2 := fun ds => okBs b ds = true → okBs c ds = true) (motive_3 := fun _ => True) (motive_4 := fun _ => True) (fun _ => rfl) (fun _ _ => rfl) (fun i z => decide_eq_true (Nat.le_trans (of_decide_eq_true z) h)) (fun _ z => z) (fun _ ih => ih) (fun _ ih => ih) (fun _ _ z => by cases z) (fun _ => rfl) ?_ trivial (fun _ _ _ _ => trivial) (fun _ _ _ _ => trivial) d
    intro d ds i1 i2 z
    obtain ⟨z1, z2⟩ := Bool.and_eq_true_iff.mp (show (okB b d && okBs b ds) = true from z)
    show (okB c d && okBs c ds) = true
    rw [i1 z1, i2 z2]
    rfl
  refine ⟨key, fun ds => ?_⟩
  induction ds with
  | nil => exact fun _ => rfl
  | cons d ds ih =>
    intro z
    obtain ⟨z1, z2⟩ := Bool.and_eq_true_iff.mp (show (okB b d && okBs b ds) = true from z)
    show (okB c d && okBs c ds) = true
    rw [key d z1, ih z2]
    rfl
theorem Good.up {b n w b' n' w' : Nat} {d : PyData} (h : Good b n w d) (hb : b ≤ b') (hn : n ≤ n') (hw : w ≤ w') : Good b' n' w' d := ⟨(okB_up hb).1 d h.o, Nat.le_trans h.dp hn, Nat.le_trans h.wt hw⟩
theorem Goods.up {b n w b' n' w' : Nat} {d : List PyData} (h : Goods b n w d) (hb : b ≤ b') (hn : n ≤ n') (hw : w ≤ w') : Goods b' n' w' d := ⟨(okB_up hb).2 d h.o, Nat.le_trans h.dp hn, Nat.le_trans h.wt hw⟩
theorem goods_cons {b n w : Nat} {d : PyData} {ds : List PyData} : Goods b n w (d :: ds) ↔ Good b n d.weight d ∧ Goods b n (PyData.weightAll ds) ds ∧ d.weight + 1 + PyData.weightAll ds ≤ w := by
  constructor
  · intro h
    obtain ⟨o1, o2⟩ := Bool.and_eq_true_iff.mp (show (okB b d && okBs b ds) = true from h.o)
    have hd : max d.depth (PyData.depthAll ds) ≤ n := h.dp
    exact ⟨⟨o1, by omega, Nat.le_refl _⟩, ⟨o2, by omega, Nat.le_refl _⟩, h.wt⟩
  · rintro ⟨h1, h2, h3⟩
    refine ⟨?_, ?_, h3⟩
    · show (okB b d && okBs b ds) = true
      rw [h1.o, h2.o]; rfl
    · show max d.depth (PyData.depthAll ds) ≤ n
      exact Nat.max_le.mpr ⟨h1.dp, h2.dp⟩
theorem good_tup {b n w : Nat} {ds : List PyData} : Good b (n + 1) w (.tuple ds) ↔ Goods b n w ds := ⟨fun h => ⟨h.o, Nat.le_of_succ_le_succ h.dp, h.wt⟩, fun h => ⟨h.o, Nat.succ_le_succ h.dp, h.wt⟩⟩
theorem good_lst {b n w : Nat} {ds : List PyData} : Good b (n + 1) w (.list ds) ↔ Goods b n w ds := ⟨fun h => ⟨h.o, Nat.le_of_succ_le_succ h.dp, h.wt⟩, fun h => ⟨h.o, Nat.succ_le_succ h.dp, h.wt⟩⟩
theorem Goods.at {b n w : Nat} : ∀ {ds : List PyData} {i : Nat} {d : PyData}, Goods b n w ds → ds[i]? = some d → Good b n d.weight d ∧ d.weight + 1 ≤ w
  | [], i, d, h, e => by simp at e
  | x :: ds, 0, d, h, e => by
    simp at e
    subst e
    obtain ⟨h1, h2, h3⟩ := goods_cons.mp h
    exact ⟨h1, by omega⟩
  | x :: ds, i + 1, d, h, e => by
    obtain ⟨h1, h2, h3⟩ := goods_cons.mp h
    obtain ⟨z1, z2⟩ := Goods.at h2 (by simpa using e)
    exact ⟨z1, by omega⟩
theorem Goods.len {b n w : Nat} : ∀ {ds : List PyData}, Goods b n w ds → ds.length ≤ w
  | [], _ => Nat.zero_le _
  | d :: ds, h => by
    obtain ⟨h1, h2, h3⟩ := goods_cons.mp h
    have := Goods.len h2
    rw [List.length_cons]
    omega
theorem Goods.set {b n : Nat} {y : PyData} (hy : Good b n y.weight y) : ∀ {ds : List PyData} {i w : Nat}, Goods b n w ds → Goods b n (w + y.weight) (ds.set i y)
  | [], i, w, h => h.up (Nat.le_refl _) (Nat.le_refl _) (Nat.le_add_right _ _)
  | x :: ds, 0, w, h => by
    obtain ⟨h1, h2, h3⟩ := goods_cons.mp h
    exact goods_cons.mpr ⟨hy, h2, by omega⟩
  | x :: ds, i + 1, w, h => by
    obtain ⟨h1, h2, h3⟩ := goods_cons.mp h
    have z := Goods.set hy (i := i) h2
    exact goods_cons.mpr ⟨h1, z.up (Nat.le_refl _) (Nat.le_refl _) (Nat.le_refl _) |> fun z => ⟨z.o, z.dp, Nat.le_refl _⟩, by have := z.wt; omega⟩
theorem Goods.erase {b n : Nat} : ∀ {ds : List PyData} {i w : Nat}, Goods b n w ds → Goods b n w (ds.eraseIdx i)
  | [], i, w, h => h
  | x :: ds, 0, w, h => by
    obtain ⟨h1, h2, h3⟩ := goods_cons.mp h
    exact h2.up (Nat.le_refl _) (Nat.le_refl _) (by omega)
  | x :: ds, i + 1, w, h => by
    obtain ⟨h1, h2, h3⟩ := goods_cons.mp h
    have z := Goods.erase (i := i) h2
    exact goods_cons.mpr ⟨h1, ⟨z.o, z.dp, Nat.le_refl _⟩, by have := z.wt; omega⟩
theorem goods_app {b n : Nat} : ∀ {ds es : List PyData} {w v : Nat}, Goods b n w ds → Goods b n v es → Goods b n (w + v) (ds ++ es)
  | [], es, w, v, _, h => h.up (Nat.le_refl _) (Nat.le_refl _) (Nat.le_add_left _ _)
  | x :: ds, es, w, v, h, h' => by
    obtain ⟨h1, h2, h3⟩ := goods_cons.mp h
    have z := goods_app h2 h'
    rw [List.cons_append]
    exact goods_cons.mpr ⟨h1, ⟨z.o, z.dp, Nat.le_refl _⟩, by have := z.wt; omega⟩
theorem goods_one {b n : Nat} {y : PyData} (hy : Good b n y.weight y) : Goods b n (y.weight + 1) [y] := goods_cons.mpr ⟨hy, ⟨rfl, Nat.zero_le _, Nat.le_refl _⟩, by show _ + 1 + 0 ≤ _; omega⟩
theorem Goods.take {b n w k : Nat} {ds : List PyData} (h : Goods b n w ds) : Goods b n w (ds.take k) := by
  induction ds generalizing k w with
  | nil => rw [List.take_nil]; exact h
  | cons x ds ih =>
    cases k with
    | zero => exact ⟨rfl, Nat.zero_le _, Nat.zero_le _⟩
    | succ k =>
      obtain ⟨h1, h2, h3⟩ := goods_cons.mp h
      have z := ih (k := k) h2
      exact goods_cons.mpr ⟨h1, ⟨z.o, z.dp, Nat.le_refl _⟩, by have := z.wt; omega⟩
theorem Goods.drop {b n w k : Nat} {ds : List PyData} (h : Goods b n w ds) : Goods b n w (ds.drop k) := by
  induction ds generalizing k w with
  | nil => rw [List.drop_nil]; exact h
  | cons x ds ih =>
    cases k with
    | zero => exact h
    | succ k =>
      obtain ⟨h1, h2, h3⟩ := goods_cons.mp h
      exact (ih (k := k) h2).up (Nat.le_refl _) (Nat.le_refl _) (by omega)
end Dn
local macro_rules
  | `(tactic| simp_arith) => `(tactic| simp only [seval, Dn.wipeD, Dn.restoreD, Dn.ownFree, Dn.setAllD, Dn.putBack, Dn.perm, Dn.optQ_some, Dn.optQ_none, Dn.optQ_ite, Dn.wX_C, Dn.wO_eq, Dn.wZ_eq, Dn.wX_bin, Dn.wX_if, Dn.wX_andV, Dn.wX_orV, Dn.wX_notV, Dn.wT_B, Dn.wT_and, Dn.wT_or, Dn.wT_not, Dn.wT_yes, Dn.wA_nil, Dn.wA_cons, Dn.wD_nil, Dn.wD_cons, Dn.wP_nil, Dn.wP_cons, Dn.wX_tup, Dn.wX_lst, Dn.wX_cb, Dn.wN_no, Dn.wN_part, Dn.wX_slice, Dn.wX_m, Dn.wX_lr2, Dn.wX_lr1, Dn.wC, Dn.wX_call, Dn.wX_callP, Dn.wS_skip, Dn.wS_break, Dn.wS_cont, Dn.wS_stuck, Dn.wS_retN, Dn.wS_drop, Dn.wS_ret, Dn.wS_if, Dn.wS_set, Dn.wS_un, Dn.wS_put, Dn.wS_par, Dn.wI_any, Dn.wI_rng, Dn.wS_for, Dn.wX_lc, Dn.wX_v, Dn.varQ_dat, Dn.varQ_own, Dn.varQ_fn, Dn.varQ_scr, Dn.opQ_dat, Dn.opQ_loc, Dn.opQ_fn, Dn.opQ_scr, Dn.opQ_own, Dn.pk_dat, Dn.pk_loc, Dn.pkAt_dat, Dn.pkAt_own, Dn.frz_dat, Dn.frz_own, Dn.frz_loc, Dn.frzAt_dat, Dn.frzAt_own, Dn.keepV_T, Dn.keepV_F, Dn.keepV_d, Dn.keepV_l, Dn.setK_dat, Dn.setK_T, Dn.setK_F, Dn.setK_fn, Dn.setK_loc, Dn.ownL_own, Dn.upd1_at, Dn.updAt_own, Dn.updAt_dat, Dn.pName_f, Dn.psNil_f, Dn.psCons_f, Dn.psCons_n, Dn.psNil_n, Dn.pTup_f, Dn.turnQ_nx, Dn.turnQ_ct, Dn.turnQ_bk, Dn.turnQ_rt, Dn.turnQ_exc, Dn.retQ_dat, Dn.retQ_own, Dn.retQ_loc, Dn.retL_own, Dn.retL_dat, Dn.endQ_nx, Dn.endQ_rt, Dn.endQ_exc, Dn.finQ_dat, Dn.finQ_own, Dn.coll_nil, Dn.coll_own, Dn.coll_dat, Dn.coll_scr, Dn.coll_fn, Dn.frzA_nil, Dn.frzA_loc, Dn.frzA_locT, Dn.frzA_dat, Dn.frzA_scr, Dn.frzA_fn, Dn.colA_nil, Dn.colA_dat, Dn.colA_fn, Dn.colA_scr, Dn.ownOb_own, Dn.colA_loc, Dn.pks_nil, Dn.pks_cons, Dn.slQ_scr, Dn.slQ_dat, Dn.slQ_loc, Dn.slD_list, Dn.slD_tuple, Dn.slD_str, Dn.addD_int, Dn.addD_str, Dn.addD_list, Dn.addD_tuple, Dn.subD_int, Dn.fdivD_int, Dn.modD_int, Dn.powD_int, Dn.mulD_int, Dn.mulD_list, Dn.eqD_if, Dn.neD_if, Dn.ltD_int, Dn.leD_int, Dn.gtD_int, Dn.geD_int, Dn.inL_list, Dn.inL_tuple, Dn.isN_none, Dn.isN_int, Dn.isN_str, Dn.isN_bool, Dn.isN_tuple, Dn.isN_list, Dn.op1_1, Dn.op2_2, Dn.lenD_list, Dn.lenD_tuple, Dn.lenD_str, Dn.tupleD_list, Dn.tupleD_tuple, Dn.listD_list, Dn.listD_tuple, Dn.intD_int, Dn.intD_bool, Dn.min2D_int, Dn.max2D_int, Dn.sortD_list, Dn.reprD_if, Dn.onA_list, Dn.onA_tuple, Dn.onA_str, Dn.onS_list, Dn.onS_tuple, Dn.rng1_int, Dn.rng2_int, Dn.ixD_list, Dn.ixD_tuple, Dn.appendO_1, Dn.popO_1, Dn.ixN_nat, Dn.ixN_lit, Dn.atI_nat, Dn.atI_lit, Dn.zz_g0, Dn.zz_gs, Dn.zz_gn, Dn.zz_s0, Dn.zz_ss, Dn.zz_lc, Dn.zz_ln, Dn.zz_lm, Dn.zz_ca, Dn.zz_na, Dn.zz_ac, Dn.zz_an, Dn.zz_gd, Dn.zz_gdn, Dn.zz_fc, Dn.zz_fn, Dn.zz_dn, Dn.zz_dc, Dn.zz_mn, Dn.zz_ed, Dn.zz_eb, Dn.zz_ei, Dn.zz_es, Dn.zz_et, Dn.zz_el, Dn.zz_x1, Dn.zz_x2, Dn.zz_at, Dn.zz_ta, Dn.zz_bt, Dn.zz_tb, Dn.zz_it, Dn.zz_if, Dn.zz_ft, Dn.zz_tt, Dn.zz_nt, Dn.zz_nf, Dn.zz_nff, Dn.zz_is, Dn.zz_to, Dn.zz_ot, Dn.zz_fo, Dn.zz_fa, Dn.zz_af, Dn.leaf_n, Dn.leaf_b, Dn.leaf_i, Dn.leaf_s, Dn.leaf_t, Dn.leaf_l, Dn.leafs_n, Dn.leafs_c, Dn.leafs_s, Dn.leafs_i, Dn.shaped_n, Dn.shaped_b, Dn.shaped_i, Dn.zz_rf, Dn.wI_enum1, Dn.wX_sortSet, Dn.wX_lenSet, Dn.wX_sortSc, Dn.sz0, Dn.sz1, Dn.sz2, Dn.sz3, Dn.sz4, Dn.sz5, Dn.sz6, Dn.sz7, Dn.sz8, Dn.sz9, Dn.sz10, Dn.sz11, Dn.sz12, Dn.sz13, Dn.sz14, Dn.sz15, Dn.sz16, Dn.wX_fn, Dn.fnO_fn, Dn.wX_callV, Dn.isNQ_fn, Dn.isNQ_none, Dn.wX_isNV, Dn.wX_tab, Dn.wX_isi, Dn.wX_isi2, Dn.boolQ_b, Dn.wX_chain, Dn.wX_neg, Dn.revQ_t, Dn.revQ_l, Dn.wX_rev, Dn.mulX_str, Dn.mulX_int, Dn.mulX_list, Dn.mulX_tuple, Dn.addZ_bi, Dn.addZ_ii, Dn.addZ_ss, Dn.addZ_ll, Dn.addZ_tt, Nat.reduceAdd, Nat.reduceSub, Nat.reduceLT, Nat.reduceLeDiff, Nat.reduceEqDiff])
  | `(tactic| simp_arith [$xs,*]) => `(tactic| simp only [seval, Dn.wipeD, Dn.restoreD, Dn.ownFree, Dn.setAllD, Dn.putBack, Dn.perm, Dn.optQ_some, Dn.optQ_none, Dn.optQ_ite, Dn.wX_C, Dn.wO_eq, Dn.wZ_eq, Dn.wX_bin, Dn.wX_if, Dn.wX_andV, Dn.wX_orV, Dn.wX_notV, Dn.wT_B, Dn.wT_and, Dn.wT_or, Dn.wT_not, Dn.wT_yes, Dn.wA_nil, Dn.wA_cons, Dn.wD_nil, Dn.wD_cons, Dn.wP_nil, Dn.wP_cons, Dn.wX_tup, Dn.wX_lst, Dn.wX_cb, Dn.wN_no, Dn.wN_part, Dn.wX_slice, Dn.wX_m, Dn.wX_lr2, Dn.wX_lr1, Dn.wC, Dn.wX_call, Dn.wX_callP, Dn.wS_skip, Dn.wS_break, Dn.wS_cont, Dn.wS_stuck, Dn.wS_retN, Dn.wS_drop, Dn.wS_ret, Dn.wS_if, Dn.wS_set, Dn.wS_un, Dn.wS_put, Dn.wS_par, Dn.wI_any, Dn.wI_rng, Dn.wS_for, Dn.wX_lc, Dn.wX_v, Dn.varQ_dat, Dn.varQ_own, Dn.varQ_fn, Dn.varQ_scr, Dn.opQ_dat, Dn.opQ_loc, Dn.opQ_fn, Dn.opQ_scr, Dn.opQ_own, Dn.pk_dat, Dn.pk_loc, Dn.pkAt_dat, Dn.pkAt_own, Dn.frz_dat, Dn.frz_own, Dn.frz_loc, Dn.frzAt_dat, Dn.frzAt_own, Dn.keepV_T, Dn.keepV_F, Dn.keepV_d, Dn.keepV_l, Dn.setK_dat, Dn.setK_T, Dn.setK_F, Dn.setK_fn, Dn.setK_loc, Dn.ownL_own, Dn.upd1_at, Dn.updAt_own, Dn.updAt_dat, Dn.pName_f, Dn.psNil_f, Dn.psCons_f, Dn.psCons_n, Dn.psNil_n, Dn.pTup_f, Dn.turnQ_nx, Dn.turnQ_ct, Dn.turnQ_bk, Dn.turnQ_rt, Dn.turnQ_exc, Dn.retQ_dat, Dn.retQ_own, Dn.retQ_loc, Dn.retL_own, Dn.retL_dat, Dn.endQ_nx, Dn.endQ_rt, Dn.endQ_exc, Dn.finQ_dat, Dn.finQ_own, Dn.coll_nil, Dn.coll_own, Dn.coll_dat, Dn.coll_scr, Dn.coll_fn, Dn.frzA_nil, Dn.frzA_loc, Dn.frzA_locT, Dn.frzA_dat, Dn.frzA_scr, Dn.frzA_fn, Dn.colA_nil, Dn.colA_dat, Dn.colA_fn, Dn.colA_scr, Dn.ownOb_own, Dn.colA_loc, Dn.pks_nil, Dn.pks_cons, Dn.slQ_scr, Dn.slQ_dat, Dn.slQ_loc, Dn.slD_list, Dn.slD_tuple, Dn.slD_str, Dn.addD_int, Dn.addD_str, Dn.addD_list, Dn.addD_tuple, Dn.subD_int, Dn.fdivD_int, Dn.modD_int, Dn.powD_int, Dn.mulD_int, Dn.mulD_list, Dn.eqD_if, Dn.neD_if, Dn.ltD_int, Dn.leD_int, Dn.gtD_int, Dn.geD_int, Dn.inL_list, Dn.inL_tuple, Dn.isN_none, Dn.isN_int, Dn.isN_str, Dn.isN_bool, Dn.isN_tuple, Dn.isN_list, Dn.op1_1, Dn.op2_2, Dn.lenD_list, Dn.lenD_tuple, Dn.lenD_str, Dn.tupleD_list, Dn.tupleD_tuple, Dn.listD_list, Dn.listD_tuple, Dn.intD_int, Dn.intD_bool, Dn.min2D_int, Dn.max2D_int, Dn.sortD_list, Dn.reprD_if, Dn.onA_list, Dn.onA_tuple, Dn.onA_str, Dn.onS_list, Dn.onS_tuple, Dn.rng1_int, Dn.rng2_int, Dn.ixD_list, Dn.ixD_tuple, Dn.appendO_1, Dn.popO_1, Dn.ixN_nat, Dn.ixN_lit, Dn.atI_nat, Dn.atI_lit, Dn.zz_g0, Dn.zz_gs, Dn.zz_gn, Dn.zz_s0, Dn.zz_ss, Dn.zz_lc, Dn.zz_ln, Dn.zz_lm, Dn.zz_ca, Dn.zz_na, Dn.zz_ac, Dn.zz_an, Dn.zz_gd, Dn.zz_gdn, Dn.zz_fc, Dn.zz_fn, Dn.zz_dn, Dn.zz_dc, Dn.zz_mn, Dn.zz_ed, Dn.zz_eb, Dn.zz_ei, Dn.zz_es, Dn.zz_et, Dn.zz_el, Dn.zz_x1, Dn.zz_x2, Dn.zz_at, Dn.zz_ta, Dn.zz_bt, Dn.zz_tb, Dn.zz_it, Dn.zz_if, Dn.zz_ft, Dn.zz_tt, Dn.zz_nt, Dn.zz_nf, Dn.zz_nff, Dn.zz_is, Dn.zz_to, Dn.zz_ot, Dn.zz_fo, Dn.zz_fa, Dn.zz_af, Dn.leaf_n, Dn.leaf_b, Dn.leaf_i, Dn.leaf_s, Dn.leaf_t, Dn.leaf_l, Dn.leafs_n, Dn.leafs_c, Dn.leafs_s, Dn.leafs_i, Dn.shaped_n, Dn.shaped_b, Dn.shaped_i, Dn.zz_rf, Dn.wI_enum1, Dn.wX_sortSet, Dn.wX_lenSet, Dn.wX_sortSc, Dn.sz0, Dn.sz1, Dn.sz2, Dn.sz3, Dn.sz4, Dn.sz5, Dn.sz6, Dn.sz7, Dn.sz8, Dn.sz9, Dn.sz10, Dn.sz11, Dn.sz12, Dn.sz13, Dn.sz14, Dn.sz15, Dn.sz16, Dn.wX_fn, Dn.fnO_fn, Dn.wX_callV, Dn.isNQ_fn, Dn.isNQ_none, Dn.wX_isNV, Dn.wX_tab, Dn.wX_isi, Dn.wX_isi2, Dn.boolQ_b, Dn.wX_chain, Dn.wX_neg, Dn.revQ_t, Dn.revQ_l, Dn.wX_rev, Dn.mulX_str, Dn.mulX_int, Dn.mulX_list, Dn.mulX_tuple, Dn.addZ_bi, Dn.addZ_ii, Dn.addZ_ss, Dn.addZ_ll, Dn.addZ_tt, Nat.reduceAdd, Nat.reduceSub, Nat.reduceLT, Nat.reduceLeDiff, Nat.reduceEqDiff, $xs,*])
namespace Dn
open PySem PySem.Spec PyProof.Rows L2
/-! ### more equations -/
section
variable (i j : Int) (b : Bool) (x y : Str) (xs ys ds : List PyData) (c : Nat)
theorem ltD_ss : ltD (.str x) (.str y) = some (.dat (.bool (decide (x.cps.toList < y.cps.toList)))) := nr rfl
theorem leD_ss : leD (.str x) (.str y) = some (.dat (.bool (!decide (y.cps.toList < x.cps.toList)))) := nr rfl
theorem gtD_ss : gtD (.str x) (.str y) = some (.dat (.bool (decide (y.cps.toList < x.cps.toList)))) := nr rfl
theorem geD_ss : geD (.str x) (.str y) = some (.dat (.bool (!decide (x.cps.toList < y.cps.toList)))) := nr rfl
theorem inL_sg : inL b (.str ⟨#[c]⟩) (.str y) = some (.dat (.bool (if b then !decide (c ∈ y.cps.toList) else decide (c ∈ y.cps.toList)))) := nr rfl
theorem insertO_2 (d : PyData) : insertO ys [.int i, d] = if ys.length < sizeLine ∧ 0 ≤ i ∧ i < 2 ^ 63 then some (.none, ys.take i.toNat ++ [d] ++ ys.drop i.toNat) else none := nr rfl
theorem tyN_n : tyN .none = "NoneType" := nr rfl
theorem tyN_b : tyN (.bool b) = "bool" := nr rfl
theorem tyN_i : tyN (.int i) = "int" := nr rfl
theorem tyN_s : tyN (.str x) = "str" := nr rfl
theorem tyN_l : tyN (.list xs) = "list" := nr rfl
theorem tyN_t : tyN (.tuple xs) = "tuple" := nr rfl
theorem isDict_n : isDict .none = false := nr rfl
theorem isDict_b : isDict (.bool b) = false := nr rfl
theorem isDict_i : isDict (.int i) = false := nr rfl
theorem isDict_s : isDict (.str x) = false := nr rfl
theorem isDict_l : isDict (.list xs) = false := nr rfl
theorem isDict_t : isDict (.tuple xs) = false := nr rfl
theorem isiB_tn : isiB "tuple" .none = false := nr rfl
theorem isiB_tb : isiB "tuple" (.bool b) = false := nr rfl
theorem isiB_ti : isiB "tuple" (.int i) = false := nr rfl
theorem isiB_ts : isiB "tuple" (.str x) = false := nr rfl
theorem isiB_tl : isiB "tuple" (.list xs) = false := nr rfl
theorem isiB_tt : isiB "tuple" (.tuple xs) = true := nr rfl
theorem isiB_ln : isiB "list" .none = false := nr rfl
theorem isiB_lb : isiB "list" (.bool b) = false := nr rfl
theorem isiB_li : isiB "list" (.int i) = false := nr rfl
theorem isiB_ls : isiB "list" (.str x) = false := nr rfl
theorem isiB_ll : isiB "list" (.list xs) = true := nr rfl
theorem isiB_lt : isiB "list" (.tuple xs) = false := nr rfl
theorem zz_of (b : Bool) : (b || false) = b := Bool.or_false b
theorem zz_ofl (b : Bool) : (false || b) = b := nr rfl
theorem zz_otr (b : Bool) : (true || b) = true := nr rfl
theorem zz_fab (b : Bool) : (false && b) = false := nr rfl
end
def kitW (a b : String) : Bool := if a = "bool" ∧ b = "int" then true else a == b
theorem kits : (["NoneType", "bool", "int", "str", "list", "tuple"].all fun a => ["int", "bool", "str", "list", "tuple"].all fun b => kitB a b == some (kitW a b)) = true := by kernel_rfl
theorem kit_at {a b : String} (c : Bool) (ha : a ∈ ["NoneType", "bool", "int", "str", "list", "tuple"] := by simp) (hb : b ∈ ["int", "bool", "str", "list", "tuple"] := by simp) (hc : kitW a b = c := by decide +kernel) : kitB a b = some c := hc ▸ eq_of_beq (List.all_eq_true.mp (List.all_eq_true.mp kits a ha) b hb)
theorem kit_ni : kitB "NoneType" "int" = some false := kit_at false
theorem kit_nb : kitB "NoneType" "bool" = some false := kit_at false
theorem kit_ns : kitB "NoneType" "str" = some false := kit_at false
theorem kit_nl : kitB "NoneType" "list" = some false := kit_at false
theorem kit_nt : kitB "NoneType" "tuple" = some false := kit_at false
theorem kit_bi : kitB "bool" "int" = some true := kit_at true
theorem kit_bb : kitB "bool" "bool" = some true := kit_at true
theorem kit_bs : kitB "bool" "str" = some false := kit_at false
theorem kit_bl : kitB "bool" "list" = some false := kit_at false
theorem kit_bt : kitB "bool" "tuple" = some false := kit_at false
theorem kit_ii : kitB "int" "int" = some true := kit_at true
theorem kit_ib : kitB "int" "bool" = some false := kit_at false
theorem kit_is : kitB "int" "str" = some false := kit_at false
theorem kit_il : kitB "int" "list" = some false := kit_at false
theorem kit_it : kitB "int" "tuple" = some false := kit_at false
theorem kit_si : kitB "str" "int" = some false := kit_at false
theorem kit_sb : kitB "str" "bool" = some false := kit_at false
theorem kit_ss : kitB "str" "str" = some true := kit_at true
theorem kit_sl : kitB "str" "list" = some false := kit_at false
theorem kit_st : kitB "str" "tuple" = some false := kit_at false
theorem kit_li : kitB "list" "int" = some false := kit_at false
theorem kit_lb : kitB "list" "bool" = some false := kit_at false
theorem kit_ls : kitB "list" "str" = some false := kit_at false
theorem kit_ll : kitB "list" "list" = some true := kit_at true
theorem kit_lt : kitB "list" "tuple" = some false := kit_at false
theorem kit_ti : kitB "tuple" "int" = some false := kit_at false
theorem kit_tb : kitB "tuple" "bool" = some false := kit_at false
theorem kit_ts : kitB "tuple" "str" = some false := kit_at false
theorem kit_tl : kitB "tuple" "list" = some false := kit_at false
theorem kit_tt : kitB "tuple" "tuple" = some true := kit_at true
theorem asB_map {A : Type} (p : A → Bool) : ∀ l : List A, asBools (l.map fun a => PyData.bool (p a)) = some (l.map p)
  | [] => rfl
  | a :: l => by
    show (asBools (l.map fun a => PyData.bool (p a))).map _ = _
    rw [asB_map p l]
    rfl
theorem allD_map {A : Type} (p : A → Bool) (l : List A) : allD (.list (l.map fun a => PyData.bool (p a))) = some (.dat (.bool (l.all p))) := by
  unfold allD
  dsimp only
  rw [asB_map]
  simp
theorem anyD_map {A : Type} (p : A → Bool) (l : List A) : anyD (.list (l.map fun a => PyData.bool (p a))) = some (.dat (.bool (l.any p))) := by
  unfold anyD
  dsimp only
  rw [asB_map]
  simp
def zipQ (d e : PyData) (Q : List PyData → Prop) : Prop := match d, e with
  | .list xs, .list ys => Q (zipL xs ys)
  | .tuple xs, .tuple ys => Q (zipL xs ys)
  | _, _ => False
theorem zipQ_l (xs ys : List PyData) (Q : List PyData → Prop) : zipQ (.list xs) (.list ys) Q = Q (zipL xs ys) := nr rfl
theorem zipQ_t (xs ys : List PyData) (Q : List PyData → Prop) : zipQ (.tuple xs) (.tuple ys) Q = Q (zipL xs ys) := nr rfl
theorem wI_zip {r : DEnv} {E : EX} (f g : DX) (Q : List PyData → DEnv → Prop) : wI (itZ (dfCons f (dfCons g dfNil))) r Q E = wZ f r (fun d r1 => wZ g r1 (fun e r2 => zipQ d e fun l => Q l r2) E) E := by
  unfold wI itZ
  rw [okQ_bind]
  have e : ∀ Q', okQ Q' E (dfCons f (dfCons g dfNil) r) = wD (dfCons f (dfCons g dfNil)) r (fun a b => Q' (a, b)) E := fun Q' => rfl
  rw [e]
  simp only [wD_cons, wD_nil]
  congr 1
  funext d r1
  congr 1
  funext e r2
  unfold zipQ
  cases d <;> cases e <;> rfl
/-! ### Good data can be shown and compared -/
theorem good_fine {b n w : Nat} {d : PyData} (h : Good b n w d) (hb : b < 2 ^ 230) : Fine n w d := by
  have key : ∀ d : PyData, okB b d = true → d.canLay0 = true ∧ d.showable = true ∧ d.leavesShort 80 = true := by
    intro d
    refine PyData.rec (motive_1 := fun d => okB b d = true → d.canLay0 = true ∧ d.showable = true ∧ d.leavesShort 80 = true) (motive_2 := fun ds => okBs b ds = true → PyData.canLayAll0 ds = true ∧ PyData.showableAll ds = true ∧ PyData.leavesShortAll 80 ds = true) (motive_3 := fun _ => True) (motive_4 := fun _ => True) (fun _ => ⟨rfl, rfl, rfl⟩) (fun _ _ => ⟨rfl, rfl, rfl⟩) ?_ ?_ (fun _ ih => ih) (fun _ ih => ih) (fun _ _ z => by cases z) (fun _ => ⟨rfl, rfl, rfl⟩) ?_ trivial (fun _ _ _ _ => trivial) (fun _ _ _ _ => trivial) d
    · intro i z
      have f := fine_int (n := 0) (i := i) 230 (Nat.lt_of_le_of_lt (of_decide_eq_true z) hb)
      exact ⟨f.l, f.s, f.b⟩
    · intro x z
      have f := fine_str (n := 0) (w := x.cps.size) (x := x) z (Nat.le_refl _)
      exact ⟨f.l, f.s, f.b⟩
    · intro d ds i1 i2 z
      obtain ⟨z1, z2⟩ := Bool.and_eq_true_iff.mp (show (okB b d && okBs b ds) = true from z)
      obtain ⟨a1, a2, a3⟩ := i1 z1
      obtain ⟨b1, b2, b3⟩ := i2 z2
      refine ⟨?_, ?_, ?_⟩
      · show (d.canLay0 && _) = true; rw [a1, b1]; rfl
      · show (d.showable && _) = true; rw [a2, b2]; rfl
      · show (d.leavesShort 80 && _) = true; rw [a3, b3]; rfl
  obtain ⟨a, b, c⟩ := key d h.o
  exact ⟨a, h.dp, b, c, h.wt⟩
theorem Goods.mem {b n w : Nat} {ds : List PyData} {d : PyData} (h : Goods b n w ds) (hd : d ∈ ds) : Good b n w d := by
  obtain ⟨i, hi, e⟩ := List.getElem_of_mem hd
  obtain ⟨g, hw⟩ := h.at (i := i) (d := d) (by rw [List.getElem?_eq_getElem hi, e])
  exact g.up (Nat.le_refl _) (Nat.le_refl _) (by omega)
theorem weight_set {y d : PyData} : ∀ {ds : List PyData} {i : Nat}, ds[i]? = some d → PyData.weightAll (ds.set i y) + d.weight = PyData.weightAll ds + y.weight
  | [], i, h => by simp at h
  | x :: ds, 0, h => by
    simp at h
    subst h
    show y.weight + 1 + PyData.weightAll ds + x.weight = x.weight + 1 + PyData.weightAll ds + y.weight
    omega
  | x :: ds, i + 1, h => by
    have := weight_set (y := y) (ds := ds) (i := i) (by simpa using h)
    show x.weight + 1 + PyData.weightAll (ds.set i y) + d.weight = x.weight + 1 + PyData.weightAll ds + y.weight
    omega
theorem Goods.set' {b n w v : Nat} {y d : PyData} {ds : List PyData} {i : Nat} (hy : Good b n y.weight y) (h : Goods b n w ds) (hi : ds[i]? = some d) (hw : w + y.weight ≤ v + d.weight) : Goods b n v (ds.set i y) := by
  have z := Goods.set hy (i := i) h
  have e := weight_set (y := y) hi
  have := h.wt
  exact ⟨z.o, z.dp, by omega⟩
theorem Goods.insert {b n w : Nat} {y : PyData} {ds : List PyData} {i : Nat} (hy : Good b n y.weight y) (h : Goods b n w ds) : Goods b n (w + (y.weight + 1)) (ds.take i ++ [y] ++ ds.drop i) := by
  have e : ∀ (ds : List PyData) (i : Nat), PyData.weightAll (ds.take i ++ [y] ++ ds.drop i) = PyData.weightAll ds + (y.weight + 1) := by
    intro ds
    induction ds with
    | nil => intro i; simp [PyData.weightAll]
    | cons x ds ih =>
      intro i
      cases i with
      | zero => show y.weight + 1 + PyData.weightAll (x :: ds) = _; omega
      | succ i =>
        show x.weight + 1 + PyData.weightAll (ds.take i ++ [y] ++ ds.drop i) = x.weight + 1 + PyData.weightAll ds + (y.weight + 1)
        rw [ih]
        omega
  have z := goods_app (goods_app (h.take (k := i)) (goods_one hy)) (h.drop (k := i))
  exact ⟨z.o, z.dp, by rw [e]; have := h.wt; omega⟩
end Dn
namespace Dn
open PySem PySem.Spec PyProof.Rows L2
theorem lc_dat {p : Pat} {t : DT} {e : DX} {vs : List Nat} {r : DEnv} {Q : List PyData → DEnv → Prop} (xs : List PyData) (F : PyData → Bool) (G : PyData → PyData)
    (h : ∀ x, x ∈ xs → optQ (p.f x r) fun r1 => wT t r1 (fun b r2 => b = F x ∧ if b = true then wZ e r2 (fun y r3 => y = G x ∧ wipeD r3 vs = r) E0x else wipeD r2 vs = r) E0x) (hq : Q ((xs.filter F).map G) r) : wM p t e vs xs r Q := by
  have z := lc_map (g := fun d : PyData => d) (p := p) (t := t) (e := e) (vs := vs) (r := r) (Q := Q) xs F G h hq
  rwa [show xs.map (fun d : PyData => d) = xs from List.map_id xs] at z
theorem zipL_zip : ∀ xs ys : List PyData, zipL xs ys = (xs.zip ys).map fun p => PyData.tuple [p.1, p.2]
  | x :: xs, y :: ys => by
    show PyData.tuple [x, y] :: zipL xs ys = _
    rw [zipL_zip xs ys]
    rfl
  | [], ys => by simp [zipL]
  | _ :: _, [] => by simp [zipL]
theorem cut_from {A : Type} {xs : List A} {i : Int} (h : 0 ≤ i) : cutL xs (some i) none = xs.drop i.toNat := by
  unfold cutL HT.sIx
  dsimp only
  rw [if_neg (by omega)]
  by_cases hl : i.toNat ≤ xs.length
  · rw [Nat.min_eq_left hl, List.take_of_length_le (by rw [List.length_drop]; omega)]
  · rw [Nat.min_eq_right (by omega), Nat.sub_self, List.take_zero, List.drop_of_length_le (by omega)]
theorem filter_nil {A : Type} {p q : A → Bool} {l : List A} (h : ∀ a, a ∈ l → p a = !q a) : (l.filter p).isEmpty = l.all q := by
  induction l with
  | nil => rfl
  | cons a l ih =>
    have ih := ih fun b hb => h b (List.mem_cons_of_mem _ hb)
    have ha := h a List.mem_cons_self
    rw [List.filter_cons, List.all_cons]
    cases hq : q a with
    | true => rw [hq] at ha; rw [if_neg (by rw [ha]; decide), ih]; rfl
    | false => rw [hq] at ha; rw [if_pos (by rw [ha]; rfl)]; rfl
theorem lookup_hit {A : Type} (x : Str) (a : A) (l : List (Str × A)) : List.lookup x ((x, a) :: l) = some a := by
  rw [List.lookup_cons, beq_self_eq_true]
end Dn
local macro_rules
  | `(tactic| simp_arith) => `(tactic| simp only [seval, Dn.wipeD, Dn.restoreD, Dn.ownFree, Dn.setAllD, Dn.putBack, Dn.perm, Dn.optQ_some, Dn.optQ_none, Dn.optQ_ite, Dn.wX_C, Dn.wO_eq, Dn.wZ_eq, Dn.wX_bin, Dn.wX_if, Dn.wX_andV, Dn.wX_orV, Dn.wX_notV, Dn.wT_B, Dn.wT_and, Dn.wT_or, Dn.wT_not, Dn.wT_yes, Dn.wA_nil, Dn.wA_cons, Dn.wD_nil, Dn.wD_cons, Dn.wP_nil, Dn.wP_cons, Dn.wX_tup, Dn.wX_lst, Dn.wX_cb, Dn.wN_no, Dn.wN_part, Dn.wX_slice, Dn.wX_m, Dn.wX_lr2, Dn.wX_lr1, Dn.wC, Dn.wX_call, Dn.wX_callP, Dn.wS_skip, Dn.wS_break, Dn.wS_cont, Dn.wS_stuck, Dn.wS_retN, Dn.wS_drop, Dn.wS_ret, Dn.wS_if, Dn.wS_set, Dn.wS_un, Dn.wS_put, Dn.wS_par, Dn.wI_any, Dn.wI_rng, Dn.wS_for, Dn.wX_lc, Dn.wX_v, Dn.varQ_dat, Dn.varQ_own, Dn.varQ_fn, Dn.varQ_scr, Dn.opQ_dat, Dn.opQ_loc, Dn.opQ_fn, Dn.opQ_scr, Dn.opQ_own, Dn.pk_dat, Dn.pk_loc, Dn.pkAt_dat, Dn.pkAt_own, Dn.frz_dat, Dn.frz_own, Dn.frz_loc, Dn.frzAt_dat, Dn.frzAt_own, Dn.keepV_T, Dn.keepV_F, Dn.keepV_d, Dn.keepV_l, Dn.setK_dat, Dn.setK_T, Dn.setK_F, Dn.setK_fn, Dn.setK_loc, Dn.ownL_own, Dn.upd1_at, Dn.updAt_own, Dn.updAt_dat, Dn.pName_f, Dn.psNil_f, Dn.psCons_f, Dn.psCons_n, Dn.psNil_n, Dn.pTup_f, Dn.turnQ_nx, Dn.turnQ_ct, Dn.turnQ_bk, Dn.turnQ_rt, Dn.turnQ_exc, Dn.retQ_dat, Dn.retQ_own, Dn.retQ_loc, Dn.retL_own, Dn.retL_dat, Dn.endQ_nx, Dn.endQ_rt, Dn.endQ_exc, Dn.finQ_dat, Dn.finQ_own, Dn.coll_nil, Dn.coll_own, Dn.coll_dat, Dn.coll_scr, Dn.coll_fn, Dn.frzA_nil, Dn.frzA_loc, Dn.frzA_locT, Dn.frzA_dat, Dn.frzA_scr, Dn.frzA_fn, Dn.colA_nil, Dn.colA_dat, Dn.colA_fn, Dn.colA_scr, Dn.ownOb_own, Dn.colA_loc, Dn.pks_nil, Dn.pks_cons, Dn.slQ_scr, Dn.slQ_dat, Dn.slQ_loc, Dn.slD_list, Dn.slD_tuple, Dn.slD_str, Dn.addD_int, Dn.addD_str, Dn.addD_list, Dn.addD_tuple, Dn.subD_int, Dn.fdivD_int, Dn.modD_int, Dn.powD_int, Dn.mulD_int, Dn.mulD_list, Dn.eqD_if, Dn.neD_if, Dn.ltD_int, Dn.leD_int, Dn.gtD_int, Dn.geD_int, Dn.inL_list, Dn.inL_tuple, Dn.isN_none, Dn.isN_int, Dn.isN_str, Dn.isN_bool, Dn.isN_tuple, Dn.isN_list, Dn.op1_1, Dn.op2_2, Dn.lenD_list, Dn.lenD_tuple, Dn.lenD_str, Dn.tupleD_list, Dn.tupleD_tuple, Dn.listD_list, Dn.listD_tuple, Dn.intD_int, Dn.intD_bool, Dn.min2D_int, Dn.max2D_int, Dn.sortD_list, Dn.reprD_if, Dn.onA_list, Dn.onA_tuple, Dn.onA_str, Dn.onS_list, Dn.onS_tuple, Dn.rng1_int, Dn.rng2_int, Dn.ixD_list, Dn.ixD_tuple, Dn.appendO_1, Dn.popO_1, Dn.ixN_nat, Dn.ixN_lit, Dn.atI_nat, Dn.atI_lit, Dn.zz_g0, Dn.zz_gs, Dn.zz_gn, Dn.zz_s0, Dn.zz_ss, Dn.zz_lc, Dn.zz_ln, Dn.zz_lm, Dn.zz_ca, Dn.zz_na, Dn.zz_ac, Dn.zz_an, Dn.zz_gd, Dn.zz_gdn, Dn.zz_fc, Dn.zz_fn, Dn.zz_dn, Dn.zz_dc, Dn.zz_mn, Dn.zz_ed, Dn.zz_eb, Dn.zz_ei, Dn.zz_es, Dn.zz_et, Dn.zz_el, Dn.zz_x1, Dn.zz_x2, Dn.zz_at, Dn.zz_ta, Dn.zz_bt, Dn.zz_tb, Dn.zz_it, Dn.zz_if, Dn.zz_ft, Dn.zz_tt, Dn.zz_nt, Dn.zz_nf, Dn.zz_nff, Dn.zz_is, Dn.zz_to, Dn.zz_ot, Dn.zz_fo, Dn.zz_fa, Dn.zz_af, Dn.leaf_n, Dn.leaf_b, Dn.leaf_i, Dn.leaf_s, Dn.leaf_t, Dn.leaf_l, Dn.leafs_n, Dn.leafs_c, Dn.leafs_s, Dn.leafs_i, Dn.shaped_n, Dn.shaped_b, Dn.shaped_i, Dn.zz_rf, Dn.wI_enum1, Dn.wX_sortSet, Dn.wX_lenSet, Dn.wX_sortSc, Dn.sz0, Dn.sz1, Dn.sz2, Dn.sz3, Dn.sz4, Dn.sz5, Dn.sz6, Dn.sz7, Dn.sz8, Dn.sz9, Dn.sz10, Dn.sz11, Dn.sz12, Dn.sz13, Dn.sz14, Dn.sz15, Dn.sz16, Dn.wX_fn, Dn.fnO_fn, Dn.wX_callV, Dn.isNQ_fn, Dn.isNQ_none, Dn.wX_isNV, Dn.wX_tab, Dn.wX_isi, Dn.wX_isi2, Dn.boolQ_b, Dn.wX_chain, Dn.wX_neg, Dn.revQ_t, Dn.revQ_l, Dn.wX_rev, Dn.mulX_str, Dn.mulX_int, Dn.mulX_list, Dn.mulX_tuple, Dn.addZ_bi, Dn.addZ_ii, Dn.addZ_ss, Dn.addZ_ll, Dn.addZ_tt, Dn.ltD_ss, Dn.leD_ss, Dn.gtD_ss, Dn.geD_ss, Dn.inL_sg, Dn.insertO_2, Dn.tyN_n, Dn.tyN_b, Dn.tyN_i, Dn.tyN_s, Dn.tyN_l, Dn.tyN_t, Dn.isDict_n, Dn.isDict_b, Dn.isDict_i, Dn.isDict_s, Dn.isDict_l, Dn.isDict_t, Dn.isiB_tn, Dn.isiB_tb, Dn.isiB_ti, Dn.isiB_ts, Dn.isiB_tl, Dn.isiB_tt, Dn.isiB_ln, Dn.isiB_lb, Dn.isiB_li, Dn.isiB_ls, Dn.isiB_ll, Dn.isiB_lt, Dn.zz_of, Dn.zz_ofl, Dn.zz_otr, Dn.zz_fab, Dn.kit_ni, Dn.kit_nb, Dn.kit_ns, Dn.kit_nl, Dn.kit_nt, Dn.kit_bi, Dn.kit_bb, Dn.kit_bs, Dn.kit_bl, Dn.kit_bt, Dn.kit_ii, Dn.kit_ib, Dn.kit_is, Dn.kit_il, Dn.kit_it, Dn.kit_si, Dn.kit_sb, Dn.kit_ss, Dn.kit_sl, Dn.kit_st, Dn.kit_li, Dn.kit_lb, Dn.kit_ls, Dn.kit_ll, Dn.kit_lt, Dn.kit_ti, Dn.kit_tb, Dn.kit_ts, Dn.kit_tl, Dn.kit_tt, Dn.zipQ_l, Dn.zipQ_t, Dn.wI_zip, Dn.lookup_hit, Nat.reduceAdd, Nat.reduceSub, Nat.reduceLT, Nat.reduceLeDiff, Nat.reduceEqDiff])
  | `(tactic| simp_arith [$xs,*]) => `(tactic| simp only [seval, Dn.wipeD, Dn.restoreD, Dn.ownFree, Dn.setAllD, Dn.putBack, Dn.perm, Dn.optQ_some, Dn.optQ_none, Dn.optQ_ite, Dn.wX_C, Dn.wO_eq, Dn.wZ_eq, Dn.wX_bin, Dn.wX_if, Dn.wX_andV, Dn.wX_orV, Dn.wX_notV, Dn.wT_B, Dn.wT_and, Dn.wT_or, Dn.wT_not, Dn.wT_yes, Dn.wA_nil, Dn.wA_cons, Dn.wD_nil, Dn.wD_cons, Dn.wP_nil, Dn.wP_cons, Dn.wX_tup, Dn.wX_lst, Dn.wX_cb, Dn.wN_no, Dn.wN_part, Dn.wX_slice, Dn.wX_m, Dn.wX_lr2, Dn.wX_lr1, Dn.wC, Dn.wX_call, Dn.wX_callP, Dn.wS_skip, Dn.wS_break, Dn.wS_cont, Dn.wS_stuck, Dn.wS_retN, Dn.wS_drop, Dn.wS_ret, Dn.wS_if, Dn.wS_set, Dn.wS_un, Dn.wS_put, Dn.wS_par, Dn.wI_any, Dn.wI_rng, Dn.wS_for, Dn.wX_lc, Dn.wX_v, Dn.varQ_dat, Dn.varQ_own, Dn.varQ_fn, Dn.varQ_scr, Dn.opQ_dat, Dn.opQ_loc, Dn.opQ_fn, Dn.opQ_scr, Dn.opQ_own, Dn.pk_dat, Dn.pk_loc, Dn.pkAt_dat, Dn.pkAt_own, Dn.frz_dat, Dn.frz_own, Dn.frz_loc, Dn.frzAt_dat, Dn.frzAt_own, Dn.keepV_T, Dn.keepV_F, Dn.keepV_d, Dn.keepV_l, Dn.setK_dat, Dn.setK_T, Dn.setK_F, Dn.setK_fn, Dn.setK_loc, Dn.ownL_own, Dn.upd1_at, Dn.updAt_own, Dn.updAt_dat, Dn.pName_f, Dn.psNil_f, Dn.psCons_f, Dn.psCons_n, Dn.psNil_n, Dn.pTup_f, Dn.turnQ_nx, Dn.turnQ_ct, Dn.turnQ_bk, Dn.turnQ_rt, Dn.turnQ_exc, Dn.retQ_dat, Dn.retQ_own, Dn.retQ_loc, Dn.retL_own, Dn.retL_dat, Dn.endQ_nx, Dn.endQ_rt, Dn.endQ_exc, Dn.finQ_dat, Dn.finQ_own, Dn.coll_nil, Dn.coll_own, Dn.coll_dat, Dn.coll_scr, Dn.coll_fn, Dn.frzA_nil, Dn.frzA_loc, Dn.frzA_locT, Dn.frzA_dat, Dn.frzA_scr, Dn.frzA_fn, Dn.colA_nil, Dn.colA_dat, Dn.colA_fn, Dn.colA_scr, Dn.ownOb_own, Dn.colA_loc, Dn.pks_nil, Dn.pks_cons, Dn.slQ_scr, Dn.slQ_dat, Dn.slQ_loc, Dn.slD_list, Dn.slD_tuple, Dn.slD_str, Dn.addD_int, Dn.addD_str, Dn.addD_list, Dn.addD_tuple, Dn.subD_int, Dn.fdivD_int, Dn.modD_int, Dn.powD_int, Dn.mulD_int, Dn.mulD_list, Dn.eqD_if, Dn.neD_if, Dn.ltD_int, Dn.leD_int, Dn.gtD_int, Dn.geD_int, Dn.inL_list, Dn.inL_tuple, Dn.isN_none, Dn.isN_int, Dn.isN_str, Dn.isN_bool, Dn.isN_tuple, Dn.isN_list, Dn.op1_1, Dn.op2_2, Dn.lenD_list, Dn.lenD_tuple, Dn.lenD_str, Dn.tupleD_list, Dn.tupleD_tuple, Dn.listD_list, Dn.listD_tuple, Dn.intD_int, Dn.intD_bool, Dn.min2D_int, Dn.max2D_int, Dn.sortD_list, Dn.reprD_if, Dn.onA_list, Dn.onA_tuple, Dn.onA_str, Dn.onS_list, Dn.onS_tuple, Dn.rng1_int, Dn.rng2_int, Dn.ixD_list, Dn.ixD_tuple, Dn.appendO_1, Dn.popO_1, Dn.ixN_nat, Dn.ixN_lit, Dn.atI_nat, Dn.atI_lit, Dn.zz_g0, Dn.zz_gs, Dn.zz_gn, Dn.zz_s0, Dn.zz_ss, Dn.zz_lc, Dn.zz_ln, Dn.zz_lm, Dn.zz_ca, Dn.zz_na, Dn.zz_ac, Dn.zz_an, Dn.zz_gd, Dn.zz_gdn, Dn.zz_fc, Dn.zz_fn, Dn.zz_dn, Dn.zz_dc, Dn.zz_mn, Dn.zz_ed, Dn.zz_eb, Dn.zz_ei, Dn.zz_es, Dn.zz_et, Dn.zz_el, Dn.zz_x1, Dn.zz_x2, Dn.zz_at, Dn.zz_ta, Dn.zz_bt, Dn.zz_tb, Dn.zz_it, Dn.zz_if, Dn.zz_ft, Dn.zz_tt, Dn.zz_nt, Dn.zz_nf, Dn.zz_nff, Dn.zz_is, Dn.zz_to, Dn.zz_ot, Dn.zz_fo, Dn.zz_fa, Dn.zz_af, Dn.leaf_n, Dn.leaf_b, Dn.leaf_i, Dn.leaf_s, Dn.leaf_t, Dn.leaf_l, Dn.leafs_n, Dn.leafs_c, Dn.leafs_s, Dn.leafs_i, Dn.shaped_n, Dn.shaped_b, Dn.shaped_i, Dn.zz_rf, Dn.wI_enum1, Dn.wX_sortSet, Dn.wX_lenSet, Dn.wX_sortSc, Dn.sz0, Dn.sz1, Dn.sz2, Dn.sz3, Dn.sz4, Dn.sz5, Dn.sz6, Dn.sz7, Dn.sz8, Dn.sz9, Dn.sz10, Dn.sz11, Dn.sz12, Dn.sz13, Dn.sz14, Dn.sz15, Dn.sz16, Dn.wX_fn, Dn.fnO_fn, Dn.wX_callV, Dn.isNQ_fn, Dn.isNQ_none, Dn.wX_isNV, Dn.wX_tab, Dn.wX_isi, Dn.wX_isi2, Dn.boolQ_b, Dn.wX_chain, Dn.wX_neg, Dn.revQ_t, Dn.revQ_l, Dn.wX_rev, Dn.mulX_str, Dn.mulX_int, Dn.mulX_list, Dn.mulX_tuple, Dn.addZ_bi, Dn.addZ_ii, Dn.addZ_ss, Dn.addZ_ll, Dn.addZ_tt, Dn.ltD_ss, Dn.leD_ss, Dn.gtD_ss, Dn.geD_ss, Dn.inL_sg, Dn.insertO_2, Dn.tyN_n, Dn.tyN_b, Dn.tyN_i, Dn.tyN_s, Dn.tyN_l, Dn.tyN_t, Dn.isDict_n, Dn.isDict_b, Dn.isDict_i, Dn.isDict_s, Dn.isDict_l, Dn.isDict_t, Dn.isiB_tn, Dn.isiB_tb, Dn.isiB_ti, Dn.isiB_ts, Dn.isiB_tl, Dn.isiB_tt, Dn.isiB_ln, Dn.isiB_lb, Dn.isiB_li, Dn.isiB_ls, Dn.isiB_ll, Dn.isiB_lt, Dn.zz_of, Dn.zz_ofl, Dn.zz_otr, Dn.zz_fab, Dn.kit_ni, Dn.kit_nb, Dn.kit_ns, Dn.kit_nl, Dn.kit_nt, Dn.kit_bi, Dn.kit_bb, Dn.kit_bs, Dn.kit_bl, Dn.kit_bt, Dn.kit_ii, Dn.kit_ib, Dn.kit_is, Dn.kit_il, Dn.kit_it, Dn.kit_si, Dn.kit_sb, Dn.kit_ss, Dn.kit_sl, Dn.kit_st, Dn.kit_li, Dn.kit_lb, Dn.kit_ls, Dn.kit_ll, Dn.kit_lt, Dn.kit_ti, Dn.kit_tb, Dn.kit_ts, Dn.kit_tl, Dn.kit_tt, Dn.zipQ_l, Dn.zipQ_t, Dn.wI_zip, Dn.lookup_hit, Nat.reduceAdd, Nat.reduceSub, Nat.reduceLT, Nat.reduceLeDiff, Nat.reduceEqDiff, $xs,*])
namespace Dn
open PySem PySem.Spec PyProof.Rows L2
/-! ### the head with tables and one more Bool -/
abbrev AlY : Type := He.AlT × Bool
def obsY (n : Nat) (fa : List He.Fa) (fn : List He.DefD) (ts : List He.Tab) (ex : PySem.W.Frag → Bool) (g : Addr → Option Obj) : AlY := (He.obsTG n fa fn ts g, ex (He.frG g (He.asD g n)))
structure SaysY (fa : List He.Fa) (fn : List He.DefD) (ts : List He.Tab) (ex : PySem.W.Frag → Bool) (w : World) (K : PySem.W.Frag) : Prop where
  t : He.SaysT fa fn ts w K
  more : ex K = true
def hookY (n : Nat) (fa : List He.Fa) (fn : List He.DefD) (ts : List He.Tab) (ex : PySem.W.Frag → Bool) : PySem.W.Hook where
  α := AlY
  obs := fun s => obsY n fa fn ts ex s.heap.get?
  val := fun w => (He.valT fn ts w, true)
  says := fun w h => ∃ K : PySem.W.Frag, K.In h ∧ SaysY fa fn ts ex w K
  of := fun w h e => ⟨He.frG _ (He.asD _ n), He.frG_in, congrArg (fun z : AlY => z.1) e, congrArg (fun z : AlY => z.2) e⟩
  keeps := fun _ _ _ ⟨K, hK, c⟩ k => ⟨K, PySem.W.Frag.In.keeps hK k, c⟩
theorem obsY_eq {n : Nat} {fa : List He.Fa} {fn : List He.DefD} {ts : List He.Tab} {ex : PySem.W.Frag → Bool} {g : Addr → Option Obj} {s : Shared} (h : ∀ a, g a = s.heap.get? a) : obsY n fa fn ts ex g = (hookY n fa fn ts ex).obs s := by
  have e : g = s.heap.get? := funext h
  rw [e] <;> rfl
end Dn
namespace Dn
open PySem PySem.Spec PyProof.Rows L2
/-! ### a dict of one's own: keys are ints or texts -/
def keyOf : PyData → Option Key
  | .int i => some (.inl i)
  | .str x => some (.inr x)
  | _ => none
theorem keyOf_D (c : Key) : keyOf (keyD c) = some c := by cases c <;> rfl
def atP (kvs : List (PyData × PyData)) (c : Key) : Option PyData := (kvs.find? fun kv => decide (keyOf kv.1 = some c)).map (·.2)
def putP (kvs : List (PyData × PyData)) (k : PyData) (c : Key) (v : PyData) : List (PyData × PyData) :=
  if (kvs.any fun kv => decide (keyOf kv.1 = some c)) = true then kvs.map (fun kv => if keyOf kv.1 = some c then (kv.1, v) else kv) else kvs ++ [(k, v)]
abbrev DcP (G : Hp) : List (Key × V) → List (PyData × PyData) → Prop := Paired (fun (p : Key × V) (q : PyData × PyData) => keyD p.1 = q.1 ∧ Dq G p.2 q.2)
theorem key_dq {G : Hp} {v : V} {d : PyData} {c : Key} (h : Dq G v d) (e : keyOf d = some c) : v = kV c ∧ d = keyD c := by
  cases h <;> cases e <;> exact ⟨rfl, rfl⟩
theorem atP_ok {G : Hp} {c : Key} {d : PyData} : ∀ {ks : List (Key × V)} {kvs : List (PyData × PyData)}, DcP G ks kvs → atP kvs c = some d → ∃ v, valV ks c = some v ∧ Dq G v d
  | _, _, .nil, e => by cases e
  | _, _, .cons (a := p) (b := q) h t, e => by
    unfold atP at e
    rw [List.find?_cons] at e
    have hk : keyOf q.1 = some p.1 := by rw [← h.1]; exact keyOf_D _
    by_cases hc : p.1 = c
    · rw [hk, hc, decide_eq_true rfl] at e
      cases e
      exact ⟨p.2, valV_pos hc, h.2⟩
    · have hn : ¬ keyOf q.1 = some c := by rw [hk]; intro z; exact hc (Option.some.inj z)
      rw [decide_eq_false hn] at e
      obtain ⟨v, e1, e2⟩ := atP_ok t e
      exact ⟨v, by rw [valV_neg hc]; exact e1, e2⟩
theorem any_ok {G : Hp} {c : Key} : ∀ {ks : List (Key × V)} {kvs : List (PyData × PyData)}, DcP G ks kvs → (kvs.any fun kv => decide (keyOf kv.1 = some c)) = (ks.any fun kv => decide (kv.1 = c))
  | _, _, .nil => rfl
  | _, _, .cons (a := p) (b := q) h t => by
    have hk : keyOf q.1 = some p.1 := by rw [← h.1]; exact keyOf_D _
    rw [List.any_cons, List.any_cons, any_ok t, hk]
    congr 1
    exact decide_eq_decide.mpr ⟨fun z => Option.some.inj z, fun z => by rw [z]⟩
theorem mapP_ok {G : Hp} {c : Key} {v : V} {d : PyData} (hv : Dq G v d) : ∀ {ks : List (Key × V)} {kvs : List (PyData × PyData)}, DcP G ks kvs → DcP G (ks.map fun kv => if kv.1 = c then (kv.1, v) else kv) (kvs.map fun kv => if keyOf kv.1 = some c then (kv.1, d) else kv)
  | _, _, .nil => .nil
  | _, _, .cons (a := p) (b := q) h t => by
    have hk : keyOf q.1 = some p.1 := by rw [← h.1]; exact keyOf_D _
    refine .cons ?_ (mapP_ok hv t)
    dsimp only
    by_cases hc : p.1 = c
    · rw [if_pos hc, if_pos (by rw [hk, hc])]
      exact ⟨h.1, hv⟩
    · rw [if_neg hc, if_neg (by rw [hk]; intro z; exact hc (Option.some.inj z))]
      exact h
theorem snocP {G : Hp} {c : Key} {v : V} {d : PyData} (hv : Dq G v d) : ∀ {ks : List (Key × V)} {kvs : List (PyData × PyData)}, DcP G ks kvs → DcP G (ks ++ [(c, v)]) (kvs ++ [(keyD c, d)])
  | _, _, .nil => .cons ⟨rfl, hv⟩ .nil
  | _, _, .cons h t => .cons h (snocP hv t)
theorem putP_ok {G : Hp} {c : Key} {v : V} {d : PyData} {ks : List (Key × V)} {kvs : List (PyData × PyData)} (h : DcP G ks kvs) (hv : Dq G v d) : DcP G (putK ks c v) (putP kvs (keyD c) c d) := by
  unfold putK putP
  rw [any_ok h]
  split
  · exact mapP_ok hv h
  · exact snocP hv h
/-! the pairs of dict(x) -/
def pairsOf : List PyData → Option (List (PyData × Key × PyData))
  | [] => some []
  | .tuple [k, v] :: ds => (match keyOf k with
    | some c => (match pairsOf ds with
      | some ps => some ((k, c, v) :: ps)
      | none => none)
    | none => none)
  | _ => none
def mergeP (kvs : List (PyData × PyData)) (ps : List (PyData × Key × PyData)) : List (PyData × PyData) := ps.foldl (fun acc p => putP acc p.1 p.2.1 p.2.2) kvs
theorem mergeP_ok {G : Hp} : ∀ {ps : List (PyData × Key × PyData)} {ms : List (Key × V)} {ks : List (Key × V)} {kvs : List (PyData × PyData)}, Paired (fun (m : Key × V) (p : PyData × Key × PyData) => p.1 = keyD m.1 ∧ p.2.1 = m.1 ∧ Dq G m.2 p.2.2) ms ps → DcP G ks kvs → DcP G (mergeK ks ms) (mergeP kvs ps)
  | _, _, _, _, .nil, h => h
  | _, _, _, _, .cons (a := m) (b := p) q t, h => by
    show DcP G (mergeK (putK _ m.1 m.2) _) (mergeP (putP _ p.1 p.2.1 p.2.2) _)
    rw [q.1, q.2.1]
    exact mergeP_ok t (putP_ok h q.2.2)
theorem pairs_ok {K : PySem.W.Frag} {G H : Hp} (sub : Same G H) : ∀ {ds : List PyData} {vs : List V} {ps : List (PyData × Key × PyData)}, DqAll G vs ds → pairsOf ds = some ps →
    ∃ (as : List Addr) (ms : List (Key × V)), vs = as.map V.ref ∧ Paired (fun p kv => SqT K H p [kV kv.1, kv.2]) as ms ∧ Paired (fun (m : Key × V) (p : PyData × Key × PyData) => p.1 = keyD m.1 ∧ p.2.1 = m.1 ∧ Dq G m.2 p.2.2) ms ps
  | [], _, _, .nil, e => by cases e; exact ⟨[], [], rfl, .nil, .nil⟩
  | d :: ds, _, ps, .cons (v := v) (vs := vs) h t, e => by
    cases h with
    | @tup a xs es ha hx =>
      cases hx with
      | nil => cases e
      | cons h1 t1 =>
        cases t1 with
        | nil => cases e
        | cons h2 t2 =>
          cases t2 with
          | cons _ _ => cases e
          | nil =>
            rename_i vk dk vv dv
            have e : (match keyOf dk with
              | some c => (match pairsOf ds with
                | some ps => some ((dk, c, dv) :: ps)
                | none => none)
              | none => none) = some ps := e
            cases hk : keyOf dk with
            | none => rw [hk] at e; cases e
            | some c =>
              rw [hk] at e
              cases hp : pairsOf ds with
              | none => rw [hp] at e; cases e
              | some ps' =>
                rw [hp] at e
                cases e
                obtain ⟨as, ms, e1, e2, e3⟩ := pairs_ok (K := K) sub t hp
                obtain ⟨k1, k2⟩ := key_dq h1 hk
                subst e1 k1 k2
                exact ⟨a :: as, (c, vv) :: ms, rfl, .cons (SqT.of (sub _ _ ha)) e2, .cons ⟨rfl, rfl, h2⟩ e3⟩
    | _ => cases e
section
variable {X : Cx} {W : WX} {fr : Fm} {T : List (Addr × Ob)} {G : Hp} {r : DEnv} {s : L2.St} {H : Hp}
theorem own_dic {i : Nat} {b : Bool} {kvs : List (PyData × PyData)} (rel : Rel X.K X.mg fr T G r s H) (h : r[i]? = some (some (.own b (.dic kvs)))) : ∃ a ks, s[i]? = some (some (.ref a)) ∧ H a = some (.dK ks) ∧ DcP G ks kvs := by
  obtain ⟨v, ev, a, rfl, g, ho, hh, ks, rfl, q⟩ := rel.slot i _ h
  exact ⟨a, ks, ev, hh, q⟩
/-! d[k] -/
def dgK (i : Nat) (k : DV) (r : DEnv) : R (DV × DEnv) := match r[i]? with
  | some (some (.own _ (.dic kvs))) => (match k with
    | .dat kd => (match keyOf kd with
      | some c => (match atP kvs c with
        | some d => .ok (.dat d, r)
        | none => .stuck)
      | none => .stuck)
    | _ => .stuck)
  | _ => .stuck
def dDGet (i : Nat) (f : DX) : DX := fun r => match r[i]? with
  | some (some (.own _ (.dic _))) => (opd f r).bind fun p => dgK i p.1 p.2
  | _ => .stuck
theorem eDGet {f : DX} {x : Str} {ix : Expr} {p pos : Pos} (i : Nat) (hu : X.A.units + 65 < cLine) (hi : DE X W ix f) (hN : X.N[i]? = some x := by rfl) (hv : Vis X.env.scope x := by first | exact .inl rfl | exact .inr (.inl rfl) | exact .inr (.inr rfl)) (hd : (x == ("__debug__" : Str)) = false := by decide) (hcd : (x == ("__classdict__" : Str)) = false := by decide) (hs : NoSl ix := by intro _ _; rfl) :
    DE X W (.Subscript (.Name x p) ix pos) (dDGet i f) := fun fr T =>
  pe_imp (pe_dget (by omega) (pe_var hN hv hd hcd) (hi fr T) hs) fun s H Q ⟨G, r, rel, o⟩ => by
    unfold dDGet at o
    split at o
    case h_2 => exact o.elim
    rename_i b kvs hr
    obtain ⟨a, ks, e1, _, _⟩ := own_dic rel hr
    refine ⟨.ref a, e1, ?_⟩
    refine opd_bindO (g := fun k r1 => dgK i k r1) (ocX Q) rel o fun G1 r1 v H1 dv m rel1 ov o1 => ?_
    replace o1 : out X W fr T G1 s (dgK i dv r1) Q := o1
    unfold dgK at o1
    split at o1
    case h_2 => exact o1.elim
    rename_i b1 kvs1 hr1
    split at o1
    case h_2 => exact o1.elim
    rename_i kd
    split at o1
    case h_2 => exact o1.elim
    rename_i c hc
    split at o1
    case h_2 => exact o1.elim
    rename_i d hd
    obtain ⟨a1, ks1, f1, f2, f3⟩ := own_dic rel1 hr1
    rw [e1] at f1
    cases f1
    obtain ⟨w, e2, e3⟩ := atP_ok f3 hd
    have ov : Dq G1 v kd := ov
    obtain ⟨k1, _⟩ := key_dq ov hc
    subst k1
    refine ⟨a, w, rfl, ?_, o1 _ _ ⟨G1, .refl _, rel1, e3⟩⟩
    rw [← e2]
    exact DGet.k f2
/-! d[k] = e -/
def dpK2 (i : Nat) (d : PyData) (k : DV) (r : DEnv) : RS := match r[i]? with
  | some (some (.own b (.dic kvs))) => (match k with
    | .dat kd => (match keyOf kd with
      | some c => if kvs.length < sizeLine then .nx (r.set i (some (.own b (.dic (putP kvs kd c d))))) else .stuck
      | none => .stuck)
    | _ => .stuck)
  | _ => .stuck
def dpK1 (i : Nat) (fi : DX) (d : PyData) (r : DEnv) : RS := match r[i]? with
  | some (some (.own _ (.dic _))) => (opd fi r).toS fun q => dpK2 i d q.1 q.2
  | _ => .stuck
def dDPut (i : Nat) (fi f : DX) : DS := fun r => (frzE f r).toS fun p => dpK1 i fi p.1 p.2
theorem paired_len {A B : Type} {P : A → B → Prop} {xs : List A} {ys : List B} (h : Paired P xs ys) : xs.length = ys.length := Paired.length h
theorem sDPut {fi f : DX} {x : Str} {ix e : Expr} {p ps pos : Pos} (i : Nat) (hu : X.A.units + 65 < cLine) (hi : DE X W ix fi) (he : DE X W e f) (hN : X.N[i]? = some x := by rfl) (hv : Vis X.env.scope x := by first | exact .inl rfl | exact .inr (.inl rfl) | exact .inr (.inr rfl)) (hd : (x == ("__debug__" : Str)) = false := by decide) (hcd : (x == ("__classdict__" : Str)) = false := by decide)
    (hs : swapsWith e (some (.Subscript (.Name x p) ix ps)) pos.line X.env = pure false := by rfl) :
    DSt X W (.Assign [.Subscript (.Name x p) ix ps] e pos) (dDPut i fi f) := fun fr =>
  ps_imp (ps_dput (by omega) (pe_var hN hv hd hcd) (hi fr []) (he fr []) hs) fun D s H ⟨G, r, rel, o⟩ => by
    unfold dDPut at o
    rw [toS_bind] at o
    refine frz_bindO (g := fun d r1 => R.ok (dpK1 i fi d r1)) (ocS D) rel o fun G1 r1 v H1 d m rel1 q o1 => ?_
    replace o1 : outS X W fr G1 (dpK1 i fi d r1) D := o1
    unfold dpK1 at o1
    split at o1
    case h_2 => exact o1.elim
    rename_i b kvs hr
    obtain ⟨a, ks, e1, _, _⟩ := own_dic rel1 hr
    refine ⟨.ref a, e1, ?_⟩
    rw [toS_bind] at o1
    refine opd_bindO (g := fun k r2 => R.ok (dpK2 i d k r2)) (ocS D) rel1 o1 fun G2 r2 w H2 dv m2 rel2 ov o2 => ?_
    replace o2 : outS X W fr G2 (dpK2 i d dv r2) D := o2
    unfold dpK2 at o2
    split at o2
    case h_2 => exact o2.elim
    rename_i b2 kvs2 hr2
    split at o2
    case h_2 => exact o2.elim
    rename_i kd
    split at o2
    case h_2 => exact o2.elim
    rename_i c hc
    split at o2
    case isFalse => exact o2.elim
    rename_i hz
    obtain ⟨a2, ks2, f1, f2, f3⟩ := own_dic rel2 hr2
    rw [e1] at f1
    cases f1
    have ov : Dq G2 w kd := ov
    obtain ⟨k1, k2⟩ := key_dq ov hc
    subst k1 k2
    exact ⟨a, _, rfl, DPut.k f2 (by rw [paired_len f3]; exact hz), o2 s _ ⟨G2, .refl _, rel2.write hr2 e1 ⟨_, rfl, putP_ok f3 (Dq.mono m2 q)⟩⟩⟩
/-! dict(x), x a list of pairs -/
def dicK (a : DV) (r : DEnv) : R (DV × DEnv) := match pk a r with
  | some (.list ds) => (match pairsOf ds with
    | some ps => .ok (.own (.dic (mergeP [] ps)), r)
    | none => .stuck)
  | _ => .stuck
def dDict (f : DX) : DX := fun r => (opd f r).bind fun p => dicK p.1 p.2
theorem eDict {f : DX} {a : Expr} {p pos : Pos} (hc : X.calm = true) (hm : X.mg "dict" = none) (ha : DE X W a f) (hg : Gl X "dict" := by rfl) (he : starEach [a] X.env = (false, eval a X.env) :: starEach [] X.env := by rfl) (hpl : (backTo pos (starEach [] X.env)).any (·.1) = false := by rfl) :
    DE X W (.Call (.Name "dict" p) [a] [] pos) (dDict f) := fun fr T =>
  pe_imp (pe_callTy (call_dictP hc) hg hm (by decide +kernel) (pa_cons (ha fr T) pa_nil he) (by decide) (by decide) he hpl) fun s H Q ⟨G, r, rel, o⟩ => by
    refine opd_bindO (g := fun a r1 => dicK a r1) (ocX _) rel o fun G1 r1 v H1 dv m rel1 ov o1 => ?_
    replace o1 : out X W fr T G1 s (dicK dv r1) Q := o1
    unfold dicK at o1
    split at o1
    case h_2 => exact o1.elim
    rename_i ds hd
    split at o1
    case h_2 => exact o1.elim
    rename_i ps hp
    have main : ∀ (a : Addr) (vs : List V), v = .ref a → SqL X.K H1 a vs → DqAll G1 vs ds → ∃ (a : Addr) (qs : List Addr) (kvs : List (Key × V)), [v] = [V.ref a] ∧ SqL X.K H1 a (qs.map V.ref) ∧ Paired (fun p kv => SqT X.K H1 p [kV kv.1, kv.2]) qs kvs ∧
        ∀ p, H1 p = none → Q (.ref p) (upd H1 p (.dK (mergeK [] kvs))) := fun a vs ev hq da => by
      obtain ⟨as, ms, e1, e2, e3⟩ := pairs_ok (K := X.K) rel1.sub da hp
      subst ev e1
      exact ⟨a, as, ms, rfl, hq, e2, fun q hn => o1 _ _ ⟨G1, .refl _, q, rfl, rel1.push hn ⟨_, rfl, mergeP_ok e3 .nil⟩⟩⟩
    rcases opr_of rel1 ov hd with h | ⟨a, vs, es, ev, ed, hh, da⟩
    · cases h with
      | @lst a xs es ha hx => exact main a xs rfl (SqL.of (rel1.sub _ _ ha)) hx
    · cases ed
      exact main a vs ev (SqL.of hh) da
/-! return (e, e'), e' an object of one's own; a, b = f(..) of such a def -/
def rtK (d : PyData) : DV × DEnv → RS
  | (.own o, r) => .rt (.pr d o) r
  | (.loc i, r) => (match r[i]? with
    | some (some (.own true o)) => .rt (.pr d o) (r.set i none)
    | _ => .stuck)
  | _ => .stuck
def dRetP (f g : DX) : DS := fun r => (frzE f r).toS fun p => (g p.2).toS (rtK p.1)
theorem sRetP {f g : DX} {a b : Expr} {kk : Nat} {tp pos : Pos} (ha : DE X W a f) (hb : DE X W b g) (h1 : starEach [a, b] X.env = (false, eval a X.env) :: starEach [b] X.env := by rfl) (h2 : starEach [b] X.env = (false, eval b X.env) :: starEach [] X.env := by rfl) :
    DSt X W (.Return (some (.Tuple [a, b] kk tp)) pos) (dRetP f g) := fun fr =>
  ps_imp (ps_ret (pe_tup (pa_cons (ha fr []) (pa_cons (hb fr []) pa_nil h2) h1))) fun D s H ⟨G, r, rel, o⟩ => by
    unfold dRetP at o
    rw [toS_bind] at o
    refine frz_bindO (g := fun d r1 => R.ok ((g r1).toS (rtK d))) (ocS D) rel o fun G1 r1 v H1 d m rel1 q o1 => ?_
    have o1 : outS X W fr G1 ((g r1).toS (rtK d)) D := o1
    refine ex_run rel1 o1 fun p _ w H2 post o2 => ?_
    obtain ⟨dv, r2⟩ := p
    have fin : ∀ (a : Addr) (ob : Ob) (G2 : Hp) (r3 : DEnv), Same G1 G2 → w = .ref a → Rel X.K X.mg fr [(a, ob)] G2 r3 s H2 → outS X W fr G1 (.rt (.pr d ob) r3) D → [v, w].length ≤ sizeLine ∧ ∀ l, H2 l = none → D.rt (.ref l) (upd H2 l (.tup [v, w])) := fun a ob G2 r3 m2 ew rel3 o3 => by
      subst ew
      refine ⟨by rw [sizeLine_eq]; exact Nat.le_of_ble_eq_true rfl, fun l hl => o3 s _ _ ⟨G2, m2, l, a, v, rfl, upd_same, Dq.mono m2 q, ?_⟩⟩
      exact rel3.ext (Ext.beside rel3.sub hl)
    cases dv with
    | own ob =>
      obtain ⟨G2, m2, a, ew, rel3⟩ := post
      exact fin a ob G2 r2 m2 ew rel3 o2
    | loc i =>
      have o2 : outS X W fr G1 (match r2[i]? with
        | some (some (.own true o)) => .rt (.pr d o) (r2.set i none)
        | _ => .stuck) D := o2
      split at o2
      case h_2 => exact o2.elim
      rename_i ob hi
      obtain ⟨G2, m2, rel3, hv⟩ := post
      obtain ⟨v', ev, a, ea, _⟩ := rel3.slot i _ hi
      rw [hv] at ev
      obtain rfl : w = v' := by injection ev with ev; injection ev
      subst ea
      exact fin a ob G2 _ m2 rfl (rel3.moveOut hi hv) o2
    | dat d => exact o2.elim
    | fn f => exact o2.elim
    | scr ns => exact o2.elim
    | pr d o => exact o2.elim
def unK (i j : Nat) : DV × DEnv → RS
  | (.pr d o, r) => .nx ((r.set i (some (.dat d))).set j (some (.own true o)))
  | _ => .stuck
def dUnP (i j : Nat) (f : DX) : DS := fun r => (f r).toS (unK i j)
theorem sUnP {f : DX} {e : Expr} {x y : Str} {px py pt pos : Pos} {kk : Nat} (i j : Nat) (hc : X.calm = true) (hN : X.N.Nodup) (he : DE X W e f) (hi : X.N[i]? = some x := by rfl) (hj : X.N[j]? = some y := by rfl)
    (hx : Loc X.env.scope x := by first | exact .inl rfl | exact .inr rfl) (hf : X.fn x = true ∨ X.env.scope.names.lookup x = some .local := by first | exact .inl rfl | exact .inr rfl)
    (hy : Loc X.env.scope y := by first | exact .inl rfl | exact .inr rfl) (hfy : X.fn y = true ∨ X.env.scope.names.lookup y = some .local := by first | exact .inl rfl | exact .inr rfl)
    (hn : (assignEach [.Name x px, .Name y py] X.env).length = 2 := by rfl) (hst : (assignEach [.Name x px, .Name y py] X.env).findIdx? (·.1) = none := by rfl)
    (a1 : (assignEach [.Name x px, .Name y py] X.env).map (·.2) = assign (.Name x px) X.env :: (assignEach [.Name y py] X.env).map (·.2) := by rfl) (a2 : (assignEach [.Name y py] X.env).map (·.2) = assign (.Name y py) X.env :: (assignEach [] X.env).map (·.2) := by rfl)
    (hs : swapsWithSole [.Tuple [.Name x px, .Name y py] kk pt] e pos.line X.env = pure false := by rfl) (hw : swappedStores [.Tuple [.Name x px, .Name y py] kk pt] e X.env = pure none := by rfl) (h1 : (assignEach [.Tuple [.Name x px, .Name y py] kk pt] X.env).map (·.2) = [assign (.Tuple [.Name x px, .Name y py] kk pt) X.env] := by rfl) :
    DSt X W (.Assign [.Tuple [.Name x px, .Name y py] kk pt] e pos) (dUnP i j f) := fun fr =>
  ps_imp (ps_asg (he fr []) (pg_tup hc (pgs_cons (pg_name hN hi hx hf) (pgs_cons (pg_name hN hj hy hfy) pgs_nil a2) a1) hn hst) hs hw h1) fun D s H ⟨G, r, rel, o⟩ => by
    refine ex_run rel o fun p _ v H1 post o1 => ?_
    obtain ⟨dv, r1⟩ := p
    cases dv with
    | pr d ob =>
      obtain ⟨G1, m, t, a, vd, rfl, ht, dd, rel1⟩ := post
      have rel2 : Rel X.K X.mg fr [(a, ob)] G1 (r1.set i (some (.dat d))) (s.set i (some vd)) H1 := rel1.setDat dd
      have rel3 := rel2.setOwn (i := j)
      exact ⟨t, [vd, .ref a], rfl, SqT.of ht, rfl, vd, [.ref a], rfl, .ref a, [], rfl, rfl, o1 _ _ ⟨G1, m, rel3⟩⟩
    | dat d => exact o1.elim
    | own o => exact o1.elim
    | loc i => exact o1.elim
    | fn f => exact o1.elim
    | scr ns => exact o1.elim
end
end Dn
namespace Dn
open PySem PySem.Spec PyProof.Rows L2
/-! ### wanted ends: dicts of one's own -/
def ownD (z : Option (Option Sl)) : Option (Bool × List (PyData × PyData)) := match z with
  | some (some (.own b (.dic kvs))) => some (b, kvs)
  | _ => none
def datQ (v : DV) (Q : PyData → Prop) : Prop := match v with
  | .dat d => Q d
  | _ => False
def prQ (v : DV) (Q : PyData → Ob → Prop) : Prop := match v with
  | .pr d o => Q d o
  | _ => False
def lstQ (d : PyData) (Q : List PyData → Prop) : Prop := match d with
  | .list ds => Q ds
  | _ => False
section
variable {r : DEnv} {E : EX} {P : RS → Prop}
theorem ownD_own (b : Bool) (kvs : List (PyData × PyData)) : ownD (some (some (.own b (.dic kvs)))) = some (b, kvs) := nr rfl
theorem datQ_dat (d : PyData) (Q : PyData → Prop) : datQ (.dat d) Q = Q d := nr rfl
theorem prQ_pr (d : PyData) (o : Ob) (Q : PyData → Ob → Prop) : prQ (.pr d o) Q = Q d o := nr rfl
theorem lstQ_l (d : List PyData) (Q : List PyData → Prop) : lstQ (.list d) Q = Q d := nr rfl
theorem zz_mc (a b : Nat) (l : List Nat) : (a ∈ b :: l) = (a = b ∨ a ∈ l) := propext List.mem_cons
theorem keyOf_s (x : Str) : keyOf (.str x) = some (.inr x) := nr rfl
theorem keyOf_i (x : Int) : keyOf (.int x) = some (.inl x) := nr rfl
theorem finQ_pr (d : PyData) (o : Ob) (args : List Sl) (QF : DV → List Ob → Prop) : finQ (.pr d o) args r QF = optQ (coll args r) fun os => QF (.pr d o) os := nr rfl
theorem dgK_ok (i : Nat) (v : DV) (r1 : DEnv) (Q : DV → DEnv → Prop) : okQ (fun p => Q p.1 p.2) E (dgK i v r1) = datQ v fun kd => optQ (ownD r1[i]?) fun q => optQ (keyOf kd) fun c => optQ (atP q.2 c) fun d => Q (.dat d) r1 := by
  unfold dgK
  have key : ∀ z : Option (Option Sl), okQ (fun p : DV × DEnv => Q p.1 p.2) E (match z with
    | some (some (.own _ (.dic kvs))) => (match v with
      | .dat kd => (match keyOf kd with
        | some c => (match atP kvs c with
          | some d => .ok (.dat d, r1)
          | none => .stuck)
        | none => .stuck)
      | _ => .stuck)
    | _ => .stuck) = datQ v fun kd => optQ (ownD z) fun q => optQ (keyOf kd) fun c => optQ (atP q.2 c) fun d => Q (.dat d) r1 := fun z => by
    cases z with
    | none => cases v <;> rfl
    | some z =>
      cases z with
      | none => cases v <;> rfl
      | some z =>
        cases z with
        | own b o =>
          cases o with
          | lst ys => cases v <;> rfl
          | dic kvs =>
            cases v with
            | dat kd =>
              show okQ (fun p : DV × DEnv => Q p.1 p.2) E (match keyOf kd with
                | some c => (match atP kvs c with
                  | some d => .ok (DV.dat d, r1)
                  | none => .stuck)
                | none => .stuck) = optQ (keyOf kd) fun c => optQ (atP kvs c) fun d => Q (.dat d) r1
              cases keyOf kd with
              | none => rfl
              | some c =>
                show okQ (fun p : DV × DEnv => Q p.1 p.2) E (match atP kvs c with
                  | some d => .ok (DV.dat d, r1)
                  | none => .stuck) = optQ (atP kvs c) fun d => Q (.dat d) r1
                cases atP kvs c <;> rfl
            | _ => rfl
        | _ => cases v <;> rfl
  exact key _
theorem wX_dget (i : Nat) (f : DX) (Q : DV → DEnv → Prop) : wX (dDGet i f) r Q E = optQ (ownD r[i]?) fun _ => wO f r (fun k r1 => datQ k fun kd => optQ (ownD r1[i]?) fun q => optQ (keyOf kd) fun c => optQ (atP q.2 c) fun d => Q (.dat d) r1) E := by
  unfold wX dDGet wO
  have outer : ∀ z : Option (Option Sl), okQ (fun p => Q p.1 p.2) E (match z with
    | some (some (.own _ (.dic _))) => (opd f r).bind fun p => dgK i p.1 p.2
    | _ => .stuck) = optQ (ownD z) fun _ => okQ (fun a => okQ (fun p => Q p.1 p.2) E (dgK i a.1 a.2)) E (opd f r) := fun z => by
    cases z with
    | none => rfl
    | some z =>
      cases z with
      | none => rfl
      | some z =>
        cases z with
        | own b o =>
          cases o with
          | lst ys => rfl
          | dic kvs => exact okQ_bind _ _ _
        | _ => rfl
  refine (outer _).trans ?_
  congr 1
  funext _
  congr 1
  funext p
  exact dgK_ok i p.1 p.2 Q
theorem dpK2_ok (i : Nat) (d : PyData) (v : DV) (r2 : DEnv) : (match dpK2 i d v r2 with
    | .stuck => False
    | x => P x) = datQ v fun kd => optQ (ownD r2[i]?) fun q => optQ (keyOf kd) fun c => q.2.length < sizeLine ∧ P (.nx (r2.set i (some (.own q.1 (.dic (putP q.2 kd c d)))))) := by
  unfold dpK2
  generalize r2[i]? = z
  cases z with
  | none => cases v <;> rfl
  | some z =>
    cases z with
    | none => cases v <;> rfl
    | some z =>
      cases z with
      | own b o =>
        cases o with
        | lst ys => cases v <;> rfl
        | dic kvs =>
          cases v with
          | dat kd =>
            show (match (match keyOf kd with
              | some c => if kvs.length < sizeLine then RS.nx (r2.set i (some (.own b (.dic (putP kvs kd c d))))) else .stuck
              | none => .stuck) with
              | .stuck => False
              | x => P x) = optQ (keyOf kd) _
            cases keyOf kd with
            | none => rfl
            | some c =>
              show (match (if kvs.length < sizeLine then RS.nx (r2.set i (some (.own b (.dic (putP kvs kd c d))))) else .stuck) with
                | .stuck => False
                | x => P x) = (kvs.length < sizeLine ∧ _)
              by_cases hl : kvs.length < sizeLine
              · rw [if_pos hl, eq_true hl, true_and]
              · rw [if_neg hl, eq_false hl, false_and]
          | _ => rfl
      | _ => cases v <;> rfl
theorem wS_dput (i : Nat) (fi f : DX) : wS (dDPut i fi f) r P = wZ f r (fun d r1 => optQ (ownD r1[i]?) fun _ => wO fi r1 (fun k r2 => datQ k fun kd => optQ (ownD r2[i]?) fun q => optQ (keyOf kd) fun c => q.2.length < sizeLine ∧ P (.nx (r2.set i (some (.own q.1 (.dic (putP q.2 kd c d))))))) (xS P)) (xS P) := by
  unfold wS dDPut
  rw [wS_toS]
  unfold wZ
  congr 1
  funext q
  obtain ⟨d, r1⟩ := q
  show (match dpK1 i fi d r1 with | .stuck => False | x => P x) = _
  unfold dpK1
  have outer : ∀ z : Option (Option Sl), (match (match z with
      | some (some (.own _ (.dic _))) => (opd fi r1).toS fun q => dpK2 i d q.1 q.2
      | _ => .stuck) with
    | .stuck => False
    | x => P x) = optQ (ownD z) fun _ => okQ (fun q => match dpK2 i d q.1 q.2 with
      | .stuck => False
      | x => P x) (xS P) (opd fi r1) := fun z => by
    cases z with
    | none => rfl
    | some z =>
      cases z with
      | none => rfl
      | some z =>
        cases z with
        | own b o =>
          cases o with
          | lst ys => rfl
          | dic kvs => exact wS_toS _ _
        | _ => rfl
  refine (outer _).trans ?_
  dsimp only
  congr 1
  funext _
  unfold wO
  congr 1
  funext z
  exact dpK2_ok i d z.1 z.2
theorem wX_dict (f : DX) (Q : DV → DEnv → Prop) : wX (dDict f) r Q E = wO f r (fun a r1 => optQ (pk a r1) fun d => lstQ d fun ds => optQ (pairsOf ds) fun ps => Q (.own (.dic (mergeP [] ps))) r1) E := by
  unfold wX dDict wO
  rw [okQ_bind]
  congr 1
  funext p
  unfold dicK
  dsimp only
  generalize pk p.1 p.2 = z
  cases z with
  | none => rfl
  | some d =>
    cases d with
    | list ds =>
      show okQ _ E (match pairsOf ds with | some ps => _ | none => _) = optQ (pairsOf ds) _
      cases pairsOf ds <;> rfl
    | _ => rfl
def retP (P : RS → Prop) (d : PyData) (v : DV) (r : DEnv) : Prop := match v with
  | .own o => P (.rt (.pr d o) r)
  | .loc i => (match r[i]? with
    | some (some (.own true o)) => P (.rt (.pr d o) (r.set i none))
    | _ => False)
  | _ => False
theorem retP_own (d : PyData) (o : Ob) : retP P d (.own o) r = P (.rt (.pr d o) r) := nr rfl
theorem wS_retP (f g : DX) : wS (dRetP f g) r P = wZ f r (fun d r1 => wX g r1 (retP P d) (xS P)) (xS P) := by
  unfold wS dRetP
  rw [wS_toS]
  unfold wZ
  congr 1
  funext p
  obtain ⟨d, r1⟩ := p
  refine (wS_toS (P := P) (g r1) (rtK d)).trans ?_
  dsimp only
  unfold wX
  congr 1
  funext q
  obtain ⟨v, r2⟩ := q
  cases v with
  | loc i =>
    show (match rtK d (.loc i, r2) with
      | .stuck => False
      | x => P x) = retP P d (.loc i) r2
    unfold rtK retP
    dsimp only
    generalize r2[i]? = z
    cases z with
    | none => rfl
    | some z =>
      cases z with
      | none => rfl
      | some z =>
        cases z with
        | own b o => cases b <;> rfl
        | _ => rfl
  | _ => rfl
theorem wS_unP (i j : Nat) (f : DX) : wS (dUnP i j f) r P = wX f r (fun v r1 => prQ v fun d o => P (.nx ((r1.set i (some (.dat d))).set j (some (.own true o))))) (xS P) := by
  unfold wS dUnP
  rw [wS_toS]
  unfold wX
  congr 1
  funext p
  obtain ⟨v, r1⟩ := p
  cases v <;> rfl
end
/-! a dict that holds a number for each of some names -/
def dicN (nm : List Str) (g : Str → Int) : List (PyData × PyData) := nm.map fun n => (.str n, .int (g n))
theorem atP_dicN {g : Str → Int} {x : Str} : ∀ {nm : List Str}, x ∈ nm → atP (dicN nm g) (.inr x) = some (.int (g x))
  | [], h => absurd h List.not_mem_nil
  | n :: nm, h => by
    unfold atP dicN
    rw [List.map_cons, List.find?_cons]
    by_cases e : n = x
    · subst e
      rw [decide_eq_true (by rfl)]
      rfl
    · have ne : ¬ keyOf (.str n) = some (.inr x) := by intro z; cases z; exact e rfl
      rw [decide_eq_false ne]
      rcases List.mem_cons.mp h with h | h
      · exact absurd h.symm e
      · exact atP_dicN h
theorem putP_dicN {g : Str → Int} {x : Str} {v : Int} {nm : List Str} (h : x ∈ nm) : putP (dicN nm g) (.str x) (.inr x) (.int v) = dicN nm fun n => if n = x then v else g n := by
  unfold putP
  have ha : ((dicN nm g).any fun kv => decide (keyOf kv.1 = some (.inr x))) = true := by
    unfold dicN
    rw [List.any_map, List.any_eq_true]
    exact ⟨x, h, decide_eq_true rfl⟩
  rw [if_pos ha]
  unfold dicN
  rw [List.map_map]
  refine List.map_congr_left fun n _ => ?_
  show (if keyOf (.str n) = some (.inr x) then (PyData.str n, PyData.int v) else (.str n, .int (g n))) = (.str n, .int (if n = x then v else g n))
  by_cases e : n = x
  · rw [if_pos (by rw [e]; rfl), if_pos e]
  · rw [if_neg (by intro z; cases z; exact e rfl), if_neg e]
theorem pairsOf_map {A : Type} (k : A → Str) (v : A → PyData) : ∀ l : List A, pairsOf (l.map fun a => PyData.tuple [.str (k a), v a]) = some (l.map fun a => (.str (k a), .inr (k a), v a))
  | [] => rfl
  | a :: l => by
    show (match keyOf (.str (k a)) with
      | some c => (match pairsOf (l.map fun a => PyData.tuple [.str (k a), v a]) with
        | some ps => some ((PyData.str (k a), c, v a) :: ps)
        | none => none)
      | none => none) = _
    rw [pairsOf_map k v l]
    rfl
theorem putP_new {kvs : List (PyData × PyData)} {k v : PyData} {c : Key} (h : ∀ kv, kv ∈ kvs → keyOf kv.1 ≠ some c) : putP kvs k c v = kvs ++ [(k, v)] := by
  unfold putP
  rw [if_neg]
  intro z
  obtain ⟨kv, h1, h2⟩ := List.any_eq_true.mp z
  exact h kv h1 (of_decide_eq_true h2)
theorem mergeP_new {A : Type} (k : A → Str) (v : A → PyData) : ∀ (l : List A) (kvs : List (PyData × PyData)), (l.map k).Nodup → (∀ a, a ∈ l → ∀ kv, kv ∈ kvs → keyOf kv.1 ≠ some (.inr (k a))) → mergeP kvs (l.map fun a => (.str (k a), .inr (k a), v a)) = kvs ++ l.map fun a => (.str (k a), v a)
  | [], kvs, _, _ => (List.append_nil _).symm
  | a :: l, kvs, nd, h => by
    rw [List.map_cons, List.nodup_cons] at nd
    show mergeP (putP kvs (.str (k a)) (.inr (k a)) (v a)) (l.map fun a => (.str (k a), .inr (k a), v a)) = _
    rw [putP_new (h a List.mem_cons_self), mergeP_new k v l _ nd.2 fun b hb kv hkv => ?_]
    · rw [List.append_assoc]; rfl
    · rcases List.mem_append.mp hkv with z | z
      · exact h b (List.mem_cons_of_mem _ hb) kv z
      · rw [List.mem_singleton.mp z]
        intro y
        have e : k a = k b := by
          have y : some (Sum.inr (k a) : Key) = some (.inr (k b)) := y
          exact Sum.inr.inj (Option.some.inj y)
        exact nd.1 (by rw [e]; exact List.mem_map_of_mem hb)
end Dn
local macro_rules
  | `(tactic| simp_arith) => `(tactic| simp only [seval, Dn.wipeD, Dn.restoreD, Dn.ownFree, Dn.setAllD, Dn.putBack, Dn.perm, Dn.optQ_some, Dn.optQ_none, Dn.optQ_ite, Dn.wX_C, Dn.wO_eq, Dn.wZ_eq, Dn.wX_bin, Dn.wX_if, Dn.wX_andV, Dn.wX_orV, Dn.wX_notV, Dn.wT_B, Dn.wT_and, Dn.wT_or, Dn.wT_not, Dn.wT_yes, Dn.wA_nil, Dn.wA_cons, Dn.wD_nil, Dn.wD_cons, Dn.wP_nil, Dn.wP_cons, Dn.wX_tup, Dn.wX_lst, Dn.wX_cb, Dn.wN_no, Dn.wN_part, Dn.wX_slice, Dn.wX_m, Dn.wX_lr2, Dn.wX_lr1, Dn.wC, Dn.wX_call, Dn.wX_callP, Dn.wS_skip, Dn.wS_break, Dn.wS_cont, Dn.wS_stuck, Dn.wS_retN, Dn.wS_drop, Dn.wS_ret, Dn.wS_if, Dn.wS_set, Dn.wS_un, Dn.wS_put, Dn.wS_par, Dn.wI_any, Dn.wI_rng, Dn.wS_for, Dn.wX_lc, Dn.wX_v, Dn.varQ_dat, Dn.varQ_own, Dn.varQ_fn, Dn.varQ_scr, Dn.opQ_dat, Dn.opQ_loc, Dn.opQ_fn, Dn.opQ_scr, Dn.opQ_own, Dn.pk_dat, Dn.pk_loc, Dn.pkAt_dat, Dn.pkAt_own, Dn.frz_dat, Dn.frz_own, Dn.frz_loc, Dn.frzAt_dat, Dn.frzAt_own, Dn.keepV_T, Dn.keepV_F, Dn.keepV_d, Dn.keepV_l, Dn.setK_dat, Dn.setK_T, Dn.setK_F, Dn.setK_fn, Dn.setK_loc, Dn.ownL_own, Dn.upd1_at, Dn.updAt_own, Dn.updAt_dat, Dn.pName_f, Dn.psNil_f, Dn.psCons_f, Dn.psCons_n, Dn.psNil_n, Dn.pTup_f, Dn.turnQ_nx, Dn.turnQ_ct, Dn.turnQ_bk, Dn.turnQ_rt, Dn.turnQ_exc, Dn.retQ_dat, Dn.retQ_own, Dn.retQ_loc, Dn.retL_own, Dn.retL_dat, Dn.endQ_nx, Dn.endQ_rt, Dn.endQ_exc, Dn.finQ_dat, Dn.finQ_own, Dn.coll_nil, Dn.coll_own, Dn.coll_dat, Dn.coll_scr, Dn.coll_fn, Dn.frzA_nil, Dn.frzA_loc, Dn.frzA_locT, Dn.frzA_dat, Dn.frzA_scr, Dn.frzA_fn, Dn.colA_nil, Dn.colA_dat, Dn.colA_fn, Dn.colA_scr, Dn.ownOb_own, Dn.colA_loc, Dn.pks_nil, Dn.pks_cons, Dn.slQ_scr, Dn.slQ_dat, Dn.slQ_loc, Dn.slD_list, Dn.slD_tuple, Dn.slD_str, Dn.addD_int, Dn.addD_str, Dn.addD_list, Dn.addD_tuple, Dn.subD_int, Dn.fdivD_int, Dn.modD_int, Dn.powD_int, Dn.mulD_int, Dn.mulD_list, Dn.eqD_if, Dn.neD_if, Dn.ltD_int, Dn.leD_int, Dn.gtD_int, Dn.geD_int, Dn.inL_list, Dn.inL_tuple, Dn.isN_none, Dn.isN_int, Dn.isN_str, Dn.isN_bool, Dn.isN_tuple, Dn.isN_list, Dn.op1_1, Dn.op2_2, Dn.lenD_list, Dn.lenD_tuple, Dn.lenD_str, Dn.tupleD_list, Dn.tupleD_tuple, Dn.listD_list, Dn.listD_tuple, Dn.intD_int, Dn.intD_bool, Dn.min2D_int, Dn.max2D_int, Dn.sortD_list, Dn.reprD_if, Dn.onA_list, Dn.onA_tuple, Dn.onA_str, Dn.onS_list, Dn.onS_tuple, Dn.rng1_int, Dn.rng2_int, Dn.ixD_list, Dn.ixD_tuple, Dn.appendO_1, Dn.popO_1, Dn.ixN_nat, Dn.ixN_lit, Dn.atI_nat, Dn.atI_lit, Dn.zz_g0, Dn.zz_gs, Dn.zz_gn, Dn.zz_s0, Dn.zz_ss, Dn.zz_lc, Dn.zz_ln, Dn.zz_lm, Dn.zz_ca, Dn.zz_na, Dn.zz_ac, Dn.zz_an, Dn.zz_gd, Dn.zz_gdn, Dn.zz_fc, Dn.zz_fn, Dn.zz_dn, Dn.zz_dc, Dn.zz_mn, Dn.zz_ed, Dn.zz_eb, Dn.zz_ei, Dn.zz_es, Dn.zz_et, Dn.zz_el, Dn.zz_x1, Dn.zz_x2, Dn.zz_at, Dn.zz_ta, Dn.zz_bt, Dn.zz_tb, Dn.zz_it, Dn.zz_if, Dn.zz_ft, Dn.zz_tt, Dn.zz_nt, Dn.zz_nf, Dn.zz_nff, Dn.zz_is, Dn.zz_to, Dn.zz_ot, Dn.zz_fo, Dn.zz_fa, Dn.zz_af, Dn.leaf_n, Dn.leaf_b, Dn.leaf_i, Dn.leaf_s, Dn.leaf_t, Dn.leaf_l, Dn.leafs_n, Dn.leafs_c, Dn.leafs_s, Dn.leafs_i, Dn.shaped_n, Dn.shaped_b, Dn.shaped_i, Dn.zz_rf, Dn.wI_enum1, Dn.wX_sortSet, Dn.wX_lenSet, Dn.wX_sortSc, Dn.sz0, Dn.sz1, Dn.sz2, Dn.sz3, Dn.sz4, Dn.sz5, Dn.sz6, Dn.sz7, Dn.sz8, Dn.sz9, Dn.sz10, Dn.sz11, Dn.sz12, Dn.sz13, Dn.sz14, Dn.sz15, Dn.sz16, Dn.wX_fn, Dn.fnO_fn, Dn.wX_callV, Dn.isNQ_fn, Dn.isNQ_none, Dn.wX_isNV, Dn.wX_tab, Dn.wX_isi, Dn.wX_isi2, Dn.boolQ_b, Dn.wX_chain, Dn.wX_neg, Dn.revQ_t, Dn.revQ_l, Dn.wX_rev, Dn.mulX_str, Dn.mulX_int, Dn.mulX_list, Dn.mulX_tuple, Dn.addZ_bi, Dn.addZ_ii, Dn.addZ_ss, Dn.addZ_ll, Dn.addZ_tt, Dn.ltD_ss, Dn.leD_ss, Dn.gtD_ss, Dn.geD_ss, Dn.inL_sg, Dn.insertO_2, Dn.tyN_n, Dn.tyN_b, Dn.tyN_i, Dn.tyN_s, Dn.tyN_l, Dn.tyN_t, Dn.isDict_n, Dn.isDict_b, Dn.isDict_i, Dn.isDict_s, Dn.isDict_l, Dn.isDict_t, Dn.isiB_tn, Dn.isiB_tb, Dn.isiB_ti, Dn.isiB_ts, Dn.isiB_tl, Dn.isiB_tt, Dn.isiB_ln, Dn.isiB_lb, Dn.isiB_li, Dn.isiB_ls, Dn.isiB_ll, Dn.isiB_lt, Dn.zz_of, Dn.zz_ofl, Dn.zz_otr, Dn.zz_fab, Dn.kit_ni, Dn.kit_nb, Dn.kit_ns, Dn.kit_nl, Dn.kit_nt, Dn.kit_bi, Dn.kit_bb, Dn.kit_bs, Dn.kit_bl, Dn.kit_bt, Dn.kit_ii, Dn.kit_ib, Dn.kit_is, Dn.kit_il, Dn.kit_it, Dn.kit_si, Dn.kit_sb, Dn.kit_ss, Dn.kit_sl, Dn.kit_st, Dn.kit_li, Dn.kit_lb, Dn.kit_ls, Dn.kit_ll, Dn.kit_lt, Dn.kit_ti, Dn.kit_tb, Dn.kit_ts, Dn.kit_tl, Dn.kit_tt, Dn.zipQ_l, Dn.zipQ_t, Dn.wI_zip, Dn.lookup_hit, Dn.ownD_own, Dn.datQ_dat, Dn.prQ_pr, Dn.lstQ_l, Dn.zz_mc, Dn.keyOf_s, Dn.keyOf_i, Dn.finQ_pr, Dn.wX_dget, Dn.wS_dput, Dn.wX_dict, Dn.retP_own, Dn.wS_retP, Dn.wS_unP, Nat.reduceAdd, Nat.reduceSub, Nat.reduceLT, Nat.reduceLeDiff, Nat.reduceEqDiff])
  | `(tactic| simp_arith [$xs,*]) => `(tactic| simp only [seval, Dn.wipeD, Dn.restoreD, Dn.ownFree, Dn.setAllD, Dn.putBack, Dn.perm, Dn.optQ_some, Dn.optQ_none, Dn.optQ_ite, Dn.wX_C, Dn.wO_eq, Dn.wZ_eq, Dn.wX_bin, Dn.wX_if, Dn.wX_andV, Dn.wX_orV, Dn.wX_notV, Dn.wT_B, Dn.wT_and, Dn.wT_or, Dn.wT_not, Dn.wT_yes, Dn.wA_nil, Dn.wA_cons, Dn.wD_nil, Dn.wD_cons, Dn.wP_nil, Dn.wP_cons, Dn.wX_tup, Dn.wX_lst, Dn.wX_cb, Dn.wN_no, Dn.wN_part, Dn.wX_slice, Dn.wX_m, Dn.wX_lr2, Dn.wX_lr1, Dn.wC, Dn.wX_call, Dn.wX_callP, Dn.wS_skip, Dn.wS_break, Dn.wS_cont, Dn.wS_stuck, Dn.wS_retN, Dn.wS_drop, Dn.wS_ret, Dn.wS_if, Dn.wS_set, Dn.wS_un, Dn.wS_put, Dn.wS_par, Dn.wI_any, Dn.wI_rng, Dn.wS_for, Dn.wX_lc, Dn.wX_v, Dn.varQ_dat, Dn.varQ_own, Dn.varQ_fn, Dn.varQ_scr, Dn.opQ_dat, Dn.opQ_loc, Dn.opQ_fn, Dn.opQ_scr, Dn.opQ_own, Dn.pk_dat, Dn.pk_loc, Dn.pkAt_dat, Dn.pkAt_own, Dn.frz_dat, Dn.frz_own, Dn.frz_loc, Dn.frzAt_dat, Dn.frzAt_own, Dn.keepV_T, Dn.keepV_F, Dn.keepV_d, Dn.keepV_l, Dn.setK_dat, Dn.setK_T, Dn.setK_F, Dn.setK_fn, Dn.setK_loc, Dn.ownL_own, Dn.upd1_at, Dn.updAt_own, Dn.updAt_dat, Dn.pName_f, Dn.psNil_f, Dn.psCons_f, Dn.psCons_n, Dn.psNil_n, Dn.pTup_f, Dn.turnQ_nx, Dn.turnQ_ct, Dn.turnQ_bk, Dn.turnQ_rt, Dn.turnQ_exc, Dn.retQ_dat, Dn.retQ_own, Dn.retQ_loc, Dn.retL_own, Dn.retL_dat, Dn.endQ_nx, Dn.endQ_rt, Dn.endQ_exc, Dn.finQ_dat, Dn.finQ_own, Dn.coll_nil, Dn.coll_own, Dn.coll_dat, Dn.coll_scr, Dn.coll_fn, Dn.frzA_nil, Dn.frzA_loc, Dn.frzA_locT, Dn.frzA_dat, Dn.frzA_scr, Dn.frzA_fn, Dn.colA_nil, Dn.colA_dat, Dn.colA_fn, Dn.colA_scr, Dn.ownOb_own, Dn.colA_loc, Dn.pks_nil, Dn.pks_cons, Dn.slQ_scr, Dn.slQ_dat, Dn.slQ_loc, Dn.slD_list, Dn.slD_tuple, Dn.slD_str, Dn.addD_int, Dn.addD_str, Dn.addD_list, Dn.addD_tuple, Dn.subD_int, Dn.fdivD_int, Dn.modD_int, Dn.powD_int, Dn.mulD_int, Dn.mulD_list, Dn.eqD_if, Dn.neD_if, Dn.ltD_int, Dn.leD_int, Dn.gtD_int, Dn.geD_int, Dn.inL_list, Dn.inL_tuple, Dn.isN_none, Dn.isN_int, Dn.isN_str, Dn.isN_bool, Dn.isN_tuple, Dn.isN_list, Dn.op1_1, Dn.op2_2, Dn.lenD_list, Dn.lenD_tuple, Dn.lenD_str, Dn.tupleD_list, Dn.tupleD_tuple, Dn.listD_list, Dn.listD_tuple, Dn.intD_int, Dn.intD_bool, Dn.min2D_int, Dn.max2D_int, Dn.sortD_list, Dn.reprD_if, Dn.onA_list, Dn.onA_tuple, Dn.onA_str, Dn.onS_list, Dn.onS_tuple, Dn.rng1_int, Dn.rng2_int, Dn.ixD_list, Dn.ixD_tuple, Dn.appendO_1, Dn.popO_1, Dn.ixN_nat, Dn.ixN_lit, Dn.atI_nat, Dn.atI_lit, Dn.zz_g0, Dn.zz_gs, Dn.zz_gn, Dn.zz_s0, Dn.zz_ss, Dn.zz_lc, Dn.zz_ln, Dn.zz_lm, Dn.zz_ca, Dn.zz_na, Dn.zz_ac, Dn.zz_an, Dn.zz_gd, Dn.zz_gdn, Dn.zz_fc, Dn.zz_fn, Dn.zz_dn, Dn.zz_dc, Dn.zz_mn, Dn.zz_ed, Dn.zz_eb, Dn.zz_ei, Dn.zz_es, Dn.zz_et, Dn.zz_el, Dn.zz_x1, Dn.zz_x2, Dn.zz_at, Dn.zz_ta, Dn.zz_bt, Dn.zz_tb, Dn.zz_it, Dn.zz_if, Dn.zz_ft, Dn.zz_tt, Dn.zz_nt, Dn.zz_nf, Dn.zz_nff, Dn.zz_is, Dn.zz_to, Dn.zz_ot, Dn.zz_fo, Dn.zz_fa, Dn.zz_af, Dn.leaf_n, Dn.leaf_b, Dn.leaf_i, Dn.leaf_s, Dn.leaf_t, Dn.leaf_l, Dn.leafs_n, Dn.leafs_c, Dn.leafs_s, Dn.leafs_i, Dn.shaped_n, Dn.shaped_b, Dn.shaped_i, Dn.zz_rf, Dn.wI_enum1, Dn.wX_sortSet, Dn.wX_lenSet, Dn.wX_sortSc, Dn.sz0, Dn.sz1, Dn.sz2, Dn.sz3, Dn.sz4, Dn.sz5, Dn.sz6, Dn.sz7, Dn.sz8, Dn.sz9, Dn.sz10, Dn.sz11, Dn.sz12, Dn.sz13, Dn.sz14, Dn.sz15, Dn.sz16, Dn.wX_fn, Dn.fnO_fn, Dn.wX_callV, Dn.isNQ_fn, Dn.isNQ_none, Dn.wX_isNV, Dn.wX_tab, Dn.wX_isi, Dn.wX_isi2, Dn.boolQ_b, Dn.wX_chain, Dn.wX_neg, Dn.revQ_t, Dn.revQ_l, Dn.wX_rev, Dn.mulX_str, Dn.mulX_int, Dn.mulX_list, Dn.mulX_tuple, Dn.addZ_bi, Dn.addZ_ii, Dn.addZ_ss, Dn.addZ_ll, Dn.addZ_tt, Dn.ltD_ss, Dn.leD_ss, Dn.gtD_ss, Dn.geD_ss, Dn.inL_sg, Dn.insertO_2, Dn.tyN_n, Dn.tyN_b, Dn.tyN_i, Dn.tyN_s, Dn.tyN_l, Dn.tyN_t, Dn.isDict_n, Dn.isDict_b, Dn.isDict_i, Dn.isDict_s, Dn.isDict_l, Dn.isDict_t, Dn.isiB_tn, Dn.isiB_tb, Dn.isiB_ti, Dn.isiB_ts, Dn.isiB_tl, Dn.isiB_tt, Dn.isiB_ln, Dn.isiB_lb, Dn.isiB_li, Dn.isiB_ls, Dn.isiB_ll, Dn.isiB_lt, Dn.zz_of, Dn.zz_ofl, Dn.zz_otr, Dn.zz_fab, Dn.kit_ni, Dn.kit_nb, Dn.kit_ns, Dn.kit_nl, Dn.kit_nt, Dn.kit_bi, Dn.kit_bb, Dn.kit_bs, Dn.kit_bl, Dn.kit_bt, Dn.kit_ii, Dn.kit_ib, Dn.kit_is, Dn.kit_il, Dn.kit_it, Dn.kit_si, Dn.kit_sb, Dn.kit_ss, Dn.kit_sl, Dn.kit_st, Dn.kit_li, Dn.kit_lb, Dn.kit_ls, Dn.kit_ll, Dn.kit_lt, Dn.kit_ti, Dn.kit_tb, Dn.kit_ts, Dn.kit_tl, Dn.kit_tt, Dn.zipQ_l, Dn.zipQ_t, Dn.wI_zip, Dn.lookup_hit, Dn.ownD_own, Dn.datQ_dat, Dn.prQ_pr, Dn.lstQ_l, Dn.zz_mc, Dn.keyOf_s, Dn.keyOf_i, Dn.finQ_pr, Dn.wX_dget, Dn.wS_dput, Dn.wX_dict, Dn.retP_own, Dn.wS_retP, Dn.wS_unP, Nat.reduceAdd, Nat.reduceSub, Nat.reduceLT, Nat.reduceLeDiff, Nat.reduceEqDiff, $xs,*])
namespace Dn
open PySem PySem.Spec PyProof.Rows L2
/-! ### helpers for the mathematics -/
theorem cut_take {A : Type} {xs : List A} {i : Int} (h : 0 ≤ i) : cutL xs none (some i) = xs.take i.toNat := by
  unfold cutL HT.sIx
  dsimp only
  rw [if_neg (by omega), List.drop_zero, Nat.sub_zero]
  by_cases hl : i.toNat ≤ xs.length
  · rw [Nat.min_eq_left hl]
  · rw [Nat.min_eq_right (by omega), List.take_length, List.take_of_length_le (by omega)]
theorem cut_last {A : Type} {xs : List A} : cutL xs none (some (-1)) = xs.take (xs.length - 1) := by
  unfold cutL HT.sIx
  dsimp only
  rw [if_pos (by decide), List.drop_zero, Nat.sub_zero]
  congr 1
  omega
theorem cut_end {A : Type} {xs : List A} : cutL xs (some (-1)) none = xs.drop (xs.length - 1) := by
  unfold cutL HT.sIx
  dsimp only
  rw [if_pos (by decide)]
  have e : (-1 + (xs.length : Int)).toNat = xs.length - 1 := by omega
  rw [e, List.take_of_length_le]
  rw [List.length_drop]
  omega
def en {A : Type} : Nat → List A → List (Nat × A)
  | _, [] => []
  | k, x :: xs => (k, x) :: en (k + 1) xs
theorem enumL_map {A : Type} (g : A → PyData) : ∀ (k : Nat) (xs : List A), enumL k (xs.map g) = (en k xs).map fun p => .tuple [.int ((p.1 : Nat) : Int), g p.2]
  | _, [] => rfl
  | k, x :: xs => by
    show PyData.tuple [.int (k : Int), g x] :: enumL (k + 1) (xs.map g) = _
    rw [enumL_map g (k + 1) xs]
    rfl
theorem enumL_en (k : Nat) (xs : List PyData) : enumL k xs = (en k xs).map fun p => .tuple [.int ((p.1 : Nat) : Int), p.2] := by
  have z := enumL_map (fun d : PyData => d) k xs
  rwa [List.map_id'] at z
theorem en_len {A : Type} : ∀ (xs : List A) (k : Nat), (en k xs).length = xs.length
  | [], _ => rfl
  | x :: xs, k => by show (en (k + 1) xs).length + 1 = _; rw [en_len xs]; rfl
theorem en_snd {A : Type} : ∀ (xs : List A) (k : Nat), (en k xs).map (·.2) = xs
  | [], _ => rfl
  | x :: xs, k => by show x :: (en (k + 1) xs).map (·.2) = _; rw [en_snd xs]
theorem en_at {A : Type} : ∀ (xs : List A) (k : Nat) (pre post : List (Nat × A)) (p : Nat × A), en k xs = pre ++ p :: post → p.1 = k + pre.length ∧ xs[pre.length]? = some p.2
  | [], k, pre, post, p, h => by cases pre <;> cases h
  | x :: xs, k, [], post, p, h => by
    cases h
    exact ⟨rfl, rfl⟩
  | x :: xs, k, q :: pre, post, p, h => by
    have h : (k, x) :: en (k + 1) xs = q :: (pre ++ p :: post) := h
    injection h with h1 h2
    obtain ⟨z1, z2⟩ := en_at xs (k + 1) pre post p h2
    exact ⟨by rw [z1, List.length_cons]; omega, by rw [List.length_cons, List.getElem?_cons_succ]; exact z2⟩
theorem en_mem {A : Type} : ∀ (xs : List A) (k i : Nat) (x : A), xs[i]? = some x → (k + i, x) ∈ en k xs
  | [], _, _, _, h => by simp at h
  | y :: xs, k, 0, x, h => by
    simp at h
    subst h
    exact List.mem_cons_self
  | y :: xs, k, i + 1, x, h => by
    have z := en_mem xs (k + 1) i x (by simpa using h)
    rw [show k + 1 + i = k + (i + 1) by omega] at z
    exact List.mem_cons_of_mem _ z
theorem at_map {A C : Type} {xs : List A} {g : A → C} {v : Int} (h0 : 0 ≤ v) (h1 : v < xs.length) : ∃ x, x ∈ xs ∧ atI (xs.map g) v = some (g x) := by
  have hl : v.toNat < xs.length := by omega
  exact ⟨xs[v.toNat], List.getElem_mem _, by rw [atI_of h0, List.getElem?_map, List.getElem?_eq_getElem hl]; rfl⟩
theorem at_list {A : Type} {xs : List A} {v : Int} (h0 : 0 ≤ v) (h1 : v < xs.length) : ∃ x, x ∈ xs ∧ atI xs v = some x := by
  have hl : v.toNat < xs.length := by omega
  exact ⟨xs[v.toNat], List.getElem_mem _, by rw [atI_of h0, List.getElem?_eq_getElem hl]⟩
theorem erase_map {A B : Type} (f : A → B) : ∀ (l : List A) (i : Nat), (l.map f).eraseIdx i = (l.eraseIdx i).map f
  | [], _ => rfl
  | _ :: _, 0 => rfl
  | a :: l, i + 1 => by show f a :: (l.map f).eraseIdx i = _; rw [erase_map f l i]; rfl
/-- a dict that holds 0 or 1 for each of some names -/
def DN (nm : List Str) (kvs : List (PyData × PyData)) : Prop := ∃ l : List (Str × Int), kvs = l.map (fun a => (.str a.1, .int a.2)) ∧ l.map (·.1) = nm ∧ ∀ a, a ∈ l → a.2 = 0 ∨ a.2 = 1
theorem DN.len {nm : List Str} {kvs : List (PyData × PyData)} (h : DN nm kvs) : kvs.length = nm.length := by
  obtain ⟨l, rfl, rfl, _⟩ := h
  rw [List.length_map, List.length_map]
theorem DN.at {nm : List Str} {kvs : List (PyData × PyData)} {x : Str} (h : DN nm kvs) (hx : x ∈ nm) : ∃ v : Int, (v = 0 ∨ v = 1) ∧ atP kvs (.inr x) = some (.int v) := by
  obtain ⟨l, rfl, rfl, hv⟩ := h
  induction l with
  | nil => cases hx
  | cons a l ih =>
    unfold atP
    rw [List.map_cons, List.find?_cons]
    by_cases e : a.1 = x
    · rw [decide_eq_true (show keyOf (.str a.1) = some (.inr x) by rw [e]; rfl)]
      exact ⟨a.2, hv a List.mem_cons_self, rfl⟩
    · have ne : ¬ keyOf (.str a.1) = some (.inr x) := by
        intro z
        exact e (Sum.inr.inj (Option.some.inj z))
      rw [decide_eq_false ne]
      rcases List.mem_cons.mp hx with h | h
      · exact absurd h.symm e
      · exact ih (fun b hb => hv b (List.mem_cons_of_mem _ hb)) h
theorem DN.put {nm : List Str} {kvs : List (PyData × PyData)} {x : Str} {v : Int} (h : DN nm kvs) (hx : x ∈ nm) (hv : v = 0 ∨ v = 1) : DN nm (putP kvs (.str x) (.inr x) (.int v)) := by
  obtain ⟨l, rfl, rfl, hl⟩ := h
  refine ⟨l.map fun a => if a.1 = x then (a.1, v) else a, ?_, ?_, ?_⟩
  · unfold putP
    rw [if_pos ?_, List.map_map, List.map_map]
    · refine List.map_congr_left fun a _ => ?_
      show (if keyOf (.str a.1) = some (.inr x) then (PyData.str a.1, PyData.int v) else (.str a.1, .int a.2)) = (.str (if a.1 = x then (a.1, v) else a).1, .int (if a.1 = x then (a.1, v) else a).2)
      by_cases e : a.1 = x
      · rw [if_pos (show keyOf (.str a.1) = some (.inr x) by rw [e]; rfl), if_pos e]
      · have ne : ¬ keyOf (.str a.1) = some (.inr x) := fun z => e (Sum.inr.inj (Option.some.inj z))
        rw [if_neg ne, if_neg e]
    · obtain ⟨a, ha, e⟩ := List.mem_map.mp hx
      rw [List.any_map, List.any_eq_true]
      exact ⟨a, ha, decide_eq_true (by show keyOf (.str a.1) = _; rw [e]; rfl)⟩
  · rw [List.map_map]
    refine List.map_congr_left fun a _ => ?_
    show (if a.1 = x then (a.1, v) else a).1 = a.1
    split <;> rfl
  · intro b hb
    obtain ⟨a, ha, rfl⟩ := List.mem_map.mp hb
    split
    · exact hv
    · exact hl a ha
theorem DN.make {nm : List Str} (l : List (Str × Int)) (hn : l.map (·.1) = nm) (nd : nm.Nodup) (hv : ∀ a, a ∈ l → a.2 = 0 ∨ a.2 = 1) : pairsOf (l.map fun a => PyData.tuple [.str a.1, .int a.2]) = some (l.map fun a => (.str a.1, .inr a.1, .int a.2)) ∧ DN nm (mergeP [] (l.map fun a => (.str a.1, .inr a.1, .int a.2))) := by
  refine ⟨pairsOf_map (fun a : Str × Int => a.1) (fun a => .int a.2) l, ?_⟩
  rw [mergeP_new (fun a : Str × Int => a.1) (fun a => .int a.2) l [] (by rw [hn]; exact nd) fun _ _ kv hkv => absurd hkv List.not_mem_nil]
  exact ⟨l, rfl, hn, hv⟩
/-! bounds -/
def goodB (b n w : Nat) (d : PyData) : Bool := okB b d && (decide (d.depth ≤ n) && decide (d.weight ≤ w))
theorem good_of {b n w : Nat} {d : PyData} (h : goodB b n w d = true) : Good b n w d := by
  obtain ⟨h1, h2⟩ := Bool.and_eq_true_iff.mp h
  obtain ⟨h2, h3⟩ := Bool.and_eq_true_iff.mp h2
  exact ⟨h1, of_decide_eq_true h2, of_decide_eq_true h3⟩
theorem strOk_app {x y : Str} (hx : PyData.strOk x = true) (hy : PyData.strOk y = true) : PyData.strOk (x ++ y) = true := by
  unfold PyData.strOk at *
  show (x.cps ++ y.cps).all _ = true
  rw [Array.all_append, hx, hy]
  rfl
theorem strOk_cut {x : Str} {lo hi : Option Int} (hx : PyData.strOk x = true) : PyData.strOk (cutS x lo hi) = true := by
  unfold PyData.strOk at *
  have h := Array.all_eq_true_iff_forall_mem.mp hx
  refine Array.all_eq_true_iff_forall_mem.mpr fun c hc => h c ?_
  unfold cutS at hc
  have hc := List.mem_toArray.mp hc
  exact Array.mem_toList_iff.mp (List.mem_of_mem_drop (List.mem_of_mem_take hc))
theorem good_int {b n w : Nat} {i : Int} (h : i.natAbs ≤ b) (hb : b < 2 ^ 230) (hw : 230 ≤ w) : Good b n w (.int i) :=
  ⟨decide_eq_true h, Nat.zero_le _, Nat.le_trans (fine_int (n := 0) (i := i) 230 (Nat.lt_of_le_of_lt h hb)).w hw⟩
theorem good_sml {b n : Nat} {i : Int} (h : i.natAbs ≤ 3) (hb : 3 ≤ b) : Good b n 2 (.int i) :=
  ⟨decide_eq_true (Nat.le_trans h hb), Nat.zero_le _, (fine_int (n := 0) (i := i) 2 (by omega)).w⟩
theorem good_str {b n w : Nat} {x : Str} (h : PyData.strOk x = true) (hw : x.length ≤ w) : Good b n w (.str x) := ⟨h, Nat.zero_le _, hw⟩
theorem good_none {b n w : Nat} : Good b n w .none := ⟨rfl, Nat.zero_le _, Nat.zero_le _⟩
theorem good_bool {b n w : Nat} (c : Bool) : Good b n w (.bool c) := ⟨rfl, Nat.zero_le _, Nat.zero_le _⟩
theorem goods_nil {b n w : Nat} : Goods b n w [] := ⟨rfl, Nat.zero_le _, Nat.zero_le _⟩
theorem goods_all {b n w : Nat} : ∀ {ds : List PyData}, (∀ d, d ∈ ds → Good b n w d) → Goods b n ((w + 1) * ds.length) ds
  | [], _ => goods_nil
  | d :: ds, h => by
    have z := goods_all fun e he => h e (List.mem_cons_of_mem d he)
    have g := h d List.mem_cons_self
    refine goods_cons.mpr ⟨⟨g.o, g.dp, Nat.le_refl _⟩, ⟨z.o, z.dp, Nat.le_refl _⟩, ?_⟩
    have := z.wt
    have := g.wt
    rw [List.length_cons, Nat.mul_add, Nat.mul_one]
    omega
theorem Goods.rev {b n w : Nat} {ds : List PyData} (h : Goods b n w ds) : Goods b n w ds.reverse := by
  have key : ∀ ds : List PyData, okBs b ds.reverse = okBs b ds ∧ PyData.depthAll ds.reverse = PyData.depthAll ds ∧ PyData.weightAll ds.reverse = PyData.weightAll ds := by
    have app : ∀ (l : List PyData) (d : PyData), okBs b (l ++ [d]) = (okB b d && okBs b l) ∧ PyData.depthAll (l ++ [d]) = max d.depth (PyData.depthAll l) ∧ PyData.weightAll (l ++ [d]) = d.weight + 1 + PyData.weightAll l := by
      intro l d
      induction l with
      | nil => exact ⟨rfl, rfl, rfl⟩
      | cons x l ih =>
        obtain ⟨i1, i2, i3⟩ := ih
        refine ⟨?_, ?_, ?_⟩
        · show (okB b x && okBs b (l ++ [d])) = (okB b d && (okB b x && okBs b l))
          rw [i1]
          cases okB b x <;> cases okB b d <;> rfl
        · show max x.depth (PyData.depthAll (l ++ [d])) = max d.depth (max x.depth (PyData.depthAll l))
          rw [i2]
          omega
        · show x.weight + 1 + PyData.weightAll (l ++ [d]) = d.weight + 1 + (x.weight + 1 + PyData.weightAll l)
          rw [i3]
          omega
    intro ds
    induction ds with
    | nil => exact ⟨rfl, rfl, rfl⟩
    | cons x ds ih =>
      obtain ⟨i1, i2, i3⟩ := ih
      obtain ⟨a1, a2, a3⟩ := app ds.reverse x
      rw [List.reverse_cons]
      exact ⟨by rw [a1, i1]; rfl, by rw [a2, i2]; rfl, by rw [a3, i3]; rfl⟩
  obtain ⟨k1, k2, k3⟩ := key ds
  exact ⟨by rw [k1]; exact h.o, by rw [k2]; exact h.dp, by rw [k3]; exact h.wt⟩
theorem eqv_int {i j : Int} : PyData.eqv (.int i) (.int j) = decide (i = j) := by
  rw [eqv_ii]
  by_cases h : i = j
  · rw [h, decide_eq_true rfl]; exact beq_self_eq_true j
  · rw [decide_eq_false h]; exact beq_eq_false_iff_ne.mpr h
theorem eqv_mix_mix : PyData.eqv (.str "mix") (.str "mix") = true := by decide +kernel
theorem eqv_mix_new : PyData.eqv (.str "mix") (.str "new") = false := by decide +kernel
theorem eqv_mix_look : PyData.eqv (.str "mix") (.str "look") = false := by decide +kernel
theorem eqv_mix_pour : PyData.eqv (.str "mix") (.str "pour") = false := by decide +kernel
theorem eqv_new_mix : PyData.eqv (.str "new") (.str "mix") = false := by decide +kernel
theorem eqv_new_new : PyData.eqv (.str "new") (.str "new") = true := by decide +kernel
theorem eqv_new_look : PyData.eqv (.str "new") (.str "look") = false := by decide +kernel
theorem eqv_new_pour : PyData.eqv (.str "new") (.str "pour") = false := by decide +kernel
theorem eqv_look_mix : PyData.eqv (.str "look") (.str "mix") = false := by decide +kernel
theorem eqv_look_new : PyData.eqv (.str "look") (.str "new") = false := by decide +kernel
theorem eqv_look_look : PyData.eqv (.str "look") (.str "look") = true := by decide +kernel
theorem eqv_look_pour : PyData.eqv (.str "look") (.str "pour") = false := by decide +kernel
theorem eqv_pour_mix : PyData.eqv (.str "pour") (.str "mix") = false := by decide +kernel
theorem eqv_pour_new : PyData.eqv (.str "pour") (.str "new") = false := by decide +kernel
theorem eqv_pour_look : PyData.eqv (.str "pour") (.str "look") = false := by decide +kernel
theorem eqv_pour_pour : PyData.eqv (.str "pour") (.str "pour") = true := by decide +kernel
end Dn
local macro_rules
  | `(tactic| simp_arith) => `(tactic| simp only [seval, Dn.wipeD, Dn.restoreD, Dn.ownFree, Dn.setAllD, Dn.putBack, Dn.perm, Dn.optQ_some, Dn.optQ_none, Dn.optQ_ite, Dn.wX_C, Dn.wO_eq, Dn.wZ_eq, Dn.wX_bin, Dn.wX_if, Dn.wX_andV, Dn.wX_orV, Dn.wX_notV, Dn.wT_B, Dn.wT_and, Dn.wT_or, Dn.wT_not, Dn.wT_yes, Dn.wA_nil, Dn.wA_cons, Dn.wD_nil, Dn.wD_cons, Dn.wP_nil, Dn.wP_cons, Dn.wX_tup, Dn.wX_lst, Dn.wX_cb, Dn.wN_no, Dn.wN_part, Dn.wX_slice, Dn.wX_m, Dn.wX_lr2, Dn.wX_lr1, Dn.wC, Dn.wX_call, Dn.wX_callP, Dn.wS_skip, Dn.wS_break, Dn.wS_cont, Dn.wS_stuck, Dn.wS_retN, Dn.wS_drop, Dn.wS_ret, Dn.wS_if, Dn.wS_set, Dn.wS_un, Dn.wS_put, Dn.wS_par, Dn.wI_any, Dn.wI_rng, Dn.wS_for, Dn.wX_lc, Dn.wX_v, Dn.varQ_dat, Dn.varQ_own, Dn.varQ_fn, Dn.varQ_scr, Dn.opQ_dat, Dn.opQ_loc, Dn.opQ_fn, Dn.opQ_scr, Dn.opQ_own, Dn.pk_dat, Dn.pk_loc, Dn.pkAt_dat, Dn.pkAt_own, Dn.frz_dat, Dn.frz_own, Dn.frz_loc, Dn.frzAt_dat, Dn.frzAt_own, Dn.keepV_T, Dn.keepV_F, Dn.keepV_d, Dn.keepV_l, Dn.setK_dat, Dn.setK_T, Dn.setK_F, Dn.setK_fn, Dn.setK_loc, Dn.ownL_own, Dn.upd1_at, Dn.updAt_own, Dn.updAt_dat, Dn.pName_f, Dn.psNil_f, Dn.psCons_f, Dn.psCons_n, Dn.psNil_n, Dn.pTup_f, Dn.turnQ_nx, Dn.turnQ_ct, Dn.turnQ_bk, Dn.turnQ_rt, Dn.turnQ_exc, Dn.retQ_dat, Dn.retQ_own, Dn.retQ_loc, Dn.retL_own, Dn.retL_dat, Dn.endQ_nx, Dn.endQ_rt, Dn.endQ_exc, Dn.finQ_dat, Dn.finQ_own, Dn.coll_nil, Dn.coll_own, Dn.coll_dat, Dn.coll_scr, Dn.coll_fn, Dn.frzA_nil, Dn.frzA_loc, Dn.frzA_locT, Dn.frzA_dat, Dn.frzA_scr, Dn.frzA_fn, Dn.colA_nil, Dn.colA_dat, Dn.colA_fn, Dn.colA_scr, Dn.ownOb_own, Dn.colA_loc, Dn.pks_nil, Dn.pks_cons, Dn.slQ_scr, Dn.slQ_dat, Dn.slQ_loc, Dn.slD_list, Dn.slD_tuple, Dn.slD_str, Dn.addD_int, Dn.addD_str, Dn.addD_list, Dn.addD_tuple, Dn.subD_int, Dn.fdivD_int, Dn.modD_int, Dn.powD_int, Dn.mulD_int, Dn.mulD_list, Dn.eqD_if, Dn.neD_if, Dn.ltD_int, Dn.leD_int, Dn.gtD_int, Dn.geD_int, Dn.inL_list, Dn.inL_tuple, Dn.isN_none, Dn.isN_int, Dn.isN_str, Dn.isN_bool, Dn.isN_tuple, Dn.isN_list, Dn.op1_1, Dn.op2_2, Dn.lenD_list, Dn.lenD_tuple, Dn.lenD_str, Dn.tupleD_list, Dn.tupleD_tuple, Dn.listD_list, Dn.listD_tuple, Dn.intD_int, Dn.intD_bool, Dn.min2D_int, Dn.max2D_int, Dn.sortD_list, Dn.reprD_if, Dn.onA_list, Dn.onA_tuple, Dn.onA_str, Dn.onS_list, Dn.onS_tuple, Dn.rng1_int, Dn.rng2_int, Dn.ixD_list, Dn.ixD_tuple, Dn.appendO_1, Dn.popO_1, Dn.ixN_nat, Dn.ixN_lit, Dn.atI_nat, Dn.atI_lit, Dn.zz_g0, Dn.zz_gs, Dn.zz_gn, Dn.zz_s0, Dn.zz_ss, Dn.zz_lc, Dn.zz_ln, Dn.zz_lm, Dn.zz_ca, Dn.zz_na, Dn.zz_ac, Dn.zz_an, Dn.zz_gd, Dn.zz_gdn, Dn.zz_fc, Dn.zz_fn, Dn.zz_dn, Dn.zz_dc, Dn.zz_mn, Dn.zz_ed, Dn.zz_eb, Dn.zz_ei, Dn.zz_es, Dn.zz_et, Dn.zz_el, Dn.zz_x1, Dn.zz_x2, Dn.zz_at, Dn.zz_ta, Dn.zz_bt, Dn.zz_tb, Dn.zz_it, Dn.zz_if, Dn.zz_ft, Dn.zz_tt, Dn.zz_nt, Dn.zz_nf, Dn.zz_nff, Dn.zz_is, Dn.zz_to, Dn.zz_ot, Dn.zz_fo, Dn.zz_fa, Dn.zz_af, Dn.leaf_n, Dn.leaf_b, Dn.leaf_i, Dn.leaf_s, Dn.leaf_t, Dn.leaf_l, Dn.leafs_n, Dn.leafs_c, Dn.leafs_s, Dn.leafs_i, Dn.shaped_n, Dn.shaped_b, Dn.shaped_i, Dn.zz_rf, Dn.wI_enum1, Dn.wX_sortSet, Dn.wX_lenSet, Dn.wX_sortSc, Dn.sz0, Dn.sz1, Dn.sz2, Dn.sz3, Dn.sz4, Dn.sz5, Dn.sz6, Dn.sz7, Dn.sz8, Dn.sz9, Dn.sz10, Dn.sz11, Dn.sz12, Dn.sz13, Dn.sz14, Dn.sz15, Dn.sz16, Dn.wX_fn, Dn.fnO_fn, Dn.wX_callV, Dn.isNQ_fn, Dn.isNQ_none, Dn.wX_isNV, Dn.wX_tab, Dn.wX_isi, Dn.wX_isi2, Dn.boolQ_b, Dn.wX_chain, Dn.wX_neg, Dn.revQ_t, Dn.revQ_l, Dn.wX_rev, Dn.mulX_str, Dn.mulX_int, Dn.mulX_list, Dn.mulX_tuple, Dn.addZ_bi, Dn.addZ_ii, Dn.addZ_ss, Dn.addZ_ll, Dn.addZ_tt, Dn.ltD_ss, Dn.leD_ss, Dn.gtD_ss, Dn.geD_ss, Dn.inL_sg, Dn.insertO_2, Dn.tyN_n, Dn.tyN_b, Dn.tyN_i, Dn.tyN_s, Dn.tyN_l, Dn.tyN_t, Dn.isDict_n, Dn.isDict_b, Dn.isDict_i, Dn.isDict_s, Dn.isDict_l, Dn.isDict_t, Dn.isiB_tn, Dn.isiB_tb, Dn.isiB_ti, Dn.isiB_ts, Dn.isiB_tl, Dn.isiB_tt, Dn.isiB_ln, Dn.isiB_lb, Dn.isiB_li, Dn.isiB_ls, Dn.isiB_ll, Dn.isiB_lt, Dn.zz_of, Dn.zz_ofl, Dn.zz_otr, Dn.zz_fab, Dn.kit_ni, Dn.kit_nb, Dn.kit_ns, Dn.kit_nl, Dn.kit_nt, Dn.kit_bi, Dn.kit_bb, Dn.kit_bs, Dn.kit_bl, Dn.kit_bt, Dn.kit_ii, Dn.kit_ib, Dn.kit_is, Dn.kit_il, Dn.kit_it, Dn.kit_si, Dn.kit_sb, Dn.kit_ss, Dn.kit_sl, Dn.kit_st, Dn.kit_li, Dn.kit_lb, Dn.kit_ls, Dn.kit_ll, Dn.kit_lt, Dn.kit_ti, Dn.kit_tb, Dn.kit_ts, Dn.kit_tl, Dn.kit_tt, Dn.zipQ_l, Dn.zipQ_t, Dn.wI_zip, Dn.lookup_hit, Dn.ownD_own, Dn.datQ_dat, Dn.prQ_pr, Dn.lstQ_l, Dn.zz_mc, Dn.keyOf_s, Dn.keyOf_i, Dn.finQ_pr, Dn.wX_dget, Dn.wS_dput, Dn.wX_dict, Dn.retP_own, Dn.wS_retP, Dn.wS_unP, Dn.eqv_mix_mix, Dn.eqv_mix_new, Dn.eqv_mix_look, Dn.eqv_mix_pour, Dn.eqv_new_mix, Dn.eqv_new_new, Dn.eqv_new_look, Dn.eqv_new_pour, Dn.eqv_look_mix, Dn.eqv_look_new, Dn.eqv_look_look, Dn.eqv_look_pour, Dn.eqv_pour_mix, Dn.eqv_pour_new, Dn.eqv_pour_look, Dn.eqv_pour_pour, Nat.reduceAdd, Nat.reduceSub, Nat.reduceLT, Nat.reduceLeDiff, Nat.reduceEqDiff])
  | `(tactic| simp_arith [$xs,*]) => `(tactic| simp only [seval, Dn.wipeD, Dn.restoreD, Dn.ownFree, Dn.setAllD, Dn.putBack, Dn.perm, Dn.optQ_some, Dn.optQ_none, Dn.optQ_ite, Dn.wX_C, Dn.wO_eq, Dn.wZ_eq, Dn.wX_bin, Dn.wX_if, Dn.wX_andV, Dn.wX_orV, Dn.wX_notV, Dn.wT_B, Dn.wT_and, Dn.wT_or, Dn.wT_not, Dn.wT_yes, Dn.wA_nil, Dn.wA_cons, Dn.wD_nil, Dn.wD_cons, Dn.wP_nil, Dn.wP_cons, Dn.wX_tup, Dn.wX_lst, Dn.wX_cb, Dn.wN_no, Dn.wN_part, Dn.wX_slice, Dn.wX_m, Dn.wX_lr2, Dn.wX_lr1, Dn.wC, Dn.wX_call, Dn.wX_callP, Dn.wS_skip, Dn.wS_break, Dn.wS_cont, Dn.wS_stuck, Dn.wS_retN, Dn.wS_drop, Dn.wS_ret, Dn.wS_if, Dn.wS_set, Dn.wS_un, Dn.wS_put, Dn.wS_par, Dn.wI_any, Dn.wI_rng, Dn.wS_for, Dn.wX_lc, Dn.wX_v, Dn.varQ_dat, Dn.varQ_own, Dn.varQ_fn, Dn.varQ_scr, Dn.opQ_dat, Dn.opQ_loc, Dn.opQ_fn, Dn.opQ_scr, Dn.opQ_own, Dn.pk_dat, Dn.pk_loc, Dn.pkAt_dat, Dn.pkAt_own, Dn.frz_dat, Dn.frz_own, Dn.frz_loc, Dn.frzAt_dat, Dn.frzAt_own, Dn.keepV_T, Dn.keepV_F, Dn.keepV_d, Dn.keepV_l, Dn.setK_dat, Dn.setK_T, Dn.setK_F, Dn.setK_fn, Dn.setK_loc, Dn.ownL_own, Dn.upd1_at, Dn.updAt_own, Dn.updAt_dat, Dn.pName_f, Dn.psNil_f, Dn.psCons_f, Dn.psCons_n, Dn.psNil_n, Dn.pTup_f, Dn.turnQ_nx, Dn.turnQ_ct, Dn.turnQ_bk, Dn.turnQ_rt, Dn.turnQ_exc, Dn.retQ_dat, Dn.retQ_own, Dn.retQ_loc, Dn.retL_own, Dn.retL_dat, Dn.endQ_nx, Dn.endQ_rt, Dn.endQ_exc, Dn.finQ_dat, Dn.finQ_own, Dn.coll_nil, Dn.coll_own, Dn.coll_dat, Dn.coll_scr, Dn.coll_fn, Dn.frzA_nil, Dn.frzA_loc, Dn.frzA_locT, Dn.frzA_dat, Dn.frzA_scr, Dn.frzA_fn, Dn.colA_nil, Dn.colA_dat, Dn.colA_fn, Dn.colA_scr, Dn.ownOb_own, Dn.colA_loc, Dn.pks_nil, Dn.pks_cons, Dn.slQ_scr, Dn.slQ_dat, Dn.slQ_loc, Dn.slD_list, Dn.slD_tuple, Dn.slD_str, Dn.addD_int, Dn.addD_str, Dn.addD_list, Dn.addD_tuple, Dn.subD_int, Dn.fdivD_int, Dn.modD_int, Dn.powD_int, Dn.mulD_int, Dn.mulD_list, Dn.eqD_if, Dn.neD_if, Dn.ltD_int, Dn.leD_int, Dn.gtD_int, Dn.geD_int, Dn.inL_list, Dn.inL_tuple, Dn.isN_none, Dn.isN_int, Dn.isN_str, Dn.isN_bool, Dn.isN_tuple, Dn.isN_list, Dn.op1_1, Dn.op2_2, Dn.lenD_list, Dn.lenD_tuple, Dn.lenD_str, Dn.tupleD_list, Dn.tupleD_tuple, Dn.listD_list, Dn.listD_tuple, Dn.intD_int, Dn.intD_bool, Dn.min2D_int, Dn.max2D_int, Dn.sortD_list, Dn.reprD_if, Dn.onA_list, Dn.onA_tuple, Dn.onA_str, Dn.onS_list, Dn.onS_tuple, Dn.rng1_int, Dn.rng2_int, Dn.ixD_list, Dn.ixD_tuple, Dn.appendO_1, Dn.popO_1, Dn.ixN_nat, Dn.ixN_lit, Dn.atI_nat, Dn.atI_lit, Dn.zz_g0, Dn.zz_gs, Dn.zz_gn, Dn.zz_s0, Dn.zz_ss, Dn.zz_lc, Dn.zz_ln, Dn.zz_lm, Dn.zz_ca, Dn.zz_na, Dn.zz_ac, Dn.zz_an, Dn.zz_gd, Dn.zz_gdn, Dn.zz_fc, Dn.zz_fn, Dn.zz_dn, Dn.zz_dc, Dn.zz_mn, Dn.zz_ed, Dn.zz_eb, Dn.zz_ei, Dn.zz_es, Dn.zz_et, Dn.zz_el, Dn.zz_x1, Dn.zz_x2, Dn.zz_at, Dn.zz_ta, Dn.zz_bt, Dn.zz_tb, Dn.zz_it, Dn.zz_if, Dn.zz_ft, Dn.zz_tt, Dn.zz_nt, Dn.zz_nf, Dn.zz_nff, Dn.zz_is, Dn.zz_to, Dn.zz_ot, Dn.zz_fo, Dn.zz_fa, Dn.zz_af, Dn.leaf_n, Dn.leaf_b, Dn.leaf_i, Dn.leaf_s, Dn.leaf_t, Dn.leaf_l, Dn.leafs_n, Dn.leafs_c, Dn.leafs_s, Dn.leafs_i, Dn.shaped_n, Dn.shaped_b, Dn.shaped_i, Dn.zz_rf, Dn.wI_enum1, Dn.wX_sortSet, Dn.wX_lenSet, Dn.wX_sortSc, Dn.sz0, Dn.sz1, Dn.sz2, Dn.sz3, Dn.sz4, Dn.sz5, Dn.sz6, Dn.sz7, Dn.sz8, Dn.sz9, Dn.sz10, Dn.sz11, Dn.sz12, Dn.sz13, Dn.sz14, Dn.sz15, Dn.sz16, Dn.wX_fn, Dn.fnO_fn, Dn.wX_callV, Dn.isNQ_fn, Dn.isNQ_none, Dn.wX_isNV, Dn.wX_tab, Dn.wX_isi, Dn.wX_isi2, Dn.boolQ_b, Dn.wX_chain, Dn.wX_neg, Dn.revQ_t, Dn.revQ_l, Dn.wX_rev, Dn.mulX_str, Dn.mulX_int, Dn.mulX_list, Dn.mulX_tuple, Dn.addZ_bi, Dn.addZ_ii, Dn.addZ_ss, Dn.addZ_ll, Dn.addZ_tt, Dn.ltD_ss, Dn.leD_ss, Dn.gtD_ss, Dn.geD_ss, Dn.inL_sg, Dn.insertO_2, Dn.tyN_n, Dn.tyN_b, Dn.tyN_i, Dn.tyN_s, Dn.tyN_l, Dn.tyN_t, Dn.isDict_n, Dn.isDict_b, Dn.isDict_i, Dn.isDict_s, Dn.isDict_l, Dn.isDict_t, Dn.isiB_tn, Dn.isiB_tb, Dn.isiB_ti, Dn.isiB_ts, Dn.isiB_tl, Dn.isiB_tt, Dn.isiB_ln, Dn.isiB_lb, Dn.isiB_li, Dn.isiB_ls, Dn.isiB_ll, Dn.isiB_lt, Dn.zz_of, Dn.zz_ofl, Dn.zz_otr, Dn.zz_fab, Dn.kit_ni, Dn.kit_nb, Dn.kit_ns, Dn.kit_nl, Dn.kit_nt, Dn.kit_bi, Dn.kit_bb, Dn.kit_bs, Dn.kit_bl, Dn.kit_bt, Dn.kit_ii, Dn.kit_ib, Dn.kit_is, Dn.kit_il, Dn.kit_it, Dn.kit_si, Dn.kit_sb, Dn.kit_ss, Dn.kit_sl, Dn.kit_st, Dn.kit_li, Dn.kit_lb, Dn.kit_ls, Dn.kit_ll, Dn.kit_lt, Dn.kit_ti, Dn.kit_tb, Dn.kit_ts, Dn.kit_tl, Dn.kit_tt, Dn.zipQ_l, Dn.zipQ_t, Dn.wI_zip, Dn.lookup_hit, Dn.ownD_own, Dn.datQ_dat, Dn.prQ_pr, Dn.lstQ_l, Dn.zz_mc, Dn.keyOf_s, Dn.keyOf_i, Dn.finQ_pr, Dn.wX_dget, Dn.wS_dput, Dn.wX_dict, Dn.retP_own, Dn.wS_retP, Dn.wS_unP, Dn.eqv_mix_mix, Dn.eqv_mix_new, Dn.eqv_mix_look, Dn.eqv_mix_pour, Dn.eqv_new_mix, Dn.eqv_new_new, Dn.eqv_new_look, Dn.eqv_new_pour, Dn.eqv_look_mix, Dn.eqv_look_new, Dn.eqv_look_look, Dn.eqv_look_pour, Dn.eqv_pour_mix, Dn.eqv_pour_new, Dn.eqv_pour_look, Dn.eqv_pour_pour, Nat.reduceAdd, Nat.reduceSub, Nat.reduceLT, Nat.reduceLeDiff, Nat.reduceEqDiff, $xs,*])
namespace Lw
open PySem PySem.Spec PyProof.Rows L2 Dn
def top (i : Nat) : Stmt := PySem.Challenge.pw_mixedbags_k17_prices_by_kind.main.body.getD i (.Pass ⟨0, 0, 0, 0⟩)
structure Fx (w : World) (K : PySem.W.Frag) (mg : Str → Option Value) : Prop where
  fr : Free mg
  g__law_feed : mg "_law_feed" = some (.ref (He.fAd K ("_law_feed", none)))
  d__law_feed : ∃ fd, FunD K "_law_feed" "_law_feed" (defArgs (top 7)) (defBody (top 7)) (defScope (top 7)) [] [] (He.fAd K ("_law_feed", none)) fd
  g__law_draw : mg "_law_draw" = some (.ref (He.fAd K ("_law_draw", none)))
  d__law_draw : ∃ fd, FunD K "_law_draw" "_law_draw" (defArgs (top 8)) (defBody (top 8)) (defScope (top 8)) [] [] (He.fAd K ("_law_draw", none)) fd
  g__law_start : mg "_law_start" = some (.ref (He.fAd K ("_law_start", none)))
  d__law_start : ∃ fd, FunD K "_law_start" "_law_start" (defArgs (top 10)) (defBody (top 10)) (defScope (top 10)) [] [] (He.fAd K ("_law_start", none)) fd
  g__law_some_places : mg "_law_some_places" = some (.ref (He.fAd K ("_law_some_places", none)))
  d__law_some_places : ∃ fd, FunD K "_law_some_places" "_law_some_places" (defArgs (top 11)) (defBody (top 11)) (defScope (top 11)) [] [] (He.fAd K ("_law_some_places", none)) fd
  g__law_shuffled : mg "_law_shuffled" = some (.ref (He.fAd K ("_law_shuffled", none)))
  d__law_shuffled : ∃ fd, FunD K "_law_shuffled" "_law_shuffled" (defArgs (top 12)) (defBody (top 12)) (defScope (top 12)) [] [] (He.fAd K ("_law_shuffled", none)) fd
  g__law_choice : mg "_law_choice" = some (.ref (He.fAd K ("_law_choice", none)))
  d__law_choice : ∃ fd, FunD K "_law_choice" "_law_choice" (defArgs (top 9)) (defBody (top 9)) (defScope (top 9)) [] [] (He.fAd K ("_law_choice", none)) fd
  g__law_event : mg "_law_event" = some (.ref (He.fAd K ("_law_event", none)))
  d__law_event : ∃ fd, FunD K "_law_event" "_law_event" (defArgs (top 13)) (defBody (top 13)) (defScope (top 13)) [] [] (He.fAd K ("_law_event", none)) fd
  g__law_case : mg "_law_case" = some (.ref (He.fAd K ("_law_case", none)))
  d__law_case : ∃ fd, FunD K "_law_case" "_law_case" (defArgs (top 14)) (defBody (top 14)) (defScope (top 14)) [] [] (He.fAd K ("_law_case", none)) fd
  g__law_rates : mg "_law_rates" = some (.ref (He.fAd K ("_law_rates", none)))
  d__law_rates : ∃ fd, FunD K "_law_rates" "_law_rates" (defArgs (top 15)) (defBody (top 15)) (defScope (top 15)) [] [] (He.fAd K ("_law_rates", none)) fd
  g__law_variants : mg "_law_variants" = some (.ref (He.fAd K ("_law_variants", none)))
  d__law_variants : ∃ fd, FunD K "_law_variants" "_law_variants" (defArgs (top 21)) (defBody (top 21)) (defScope (top 21)) [] [] (He.fAd K ("_law_variants", none)) fd
  g__law_replacement : mg "_law_replacement" = some (.ref (He.fAd K ("_law_replacement", none)))
  d__law_replacement : ∃ fd, FunD K "_law_replacement" "_law_replacement" (defArgs (top 19)) (defBody (top 19)) (defScope (top 19)) [] [] (He.fAd K ("_law_replacement", none)) fd
  g__law_mutated : mg "_law_mutated" = some (.ref (He.fAd K ("_law_mutated", none)))
  d__law_mutated : ∃ fd, FunD K "_law_mutated" "_law_mutated" (defArgs (top 20)) (defBody (top 20)) (defScope (top 20)) [] [] (He.fAd K ("_law_mutated", none)) fd
  g__law_is_integer : mg "_law_is_integer" = some (.ref (He.fAd K ("_law_is_integer", none)))
  d__law_is_integer : ∃ fd, FunD K "_law_is_integer" "_law_is_integer" (defArgs (top 16)) (defBody (top 16)) (defScope (top 16)) [] [] (He.fAd K ("_law_is_integer", none)) fd
  g__law_are_rates : mg "_law_are_rates" = some (.ref (He.fAd K ("_law_are_rates", none)))
  d__law_are_rates : ∃ fd, FunD K "_law_are_rates" "_law_are_rates" (defArgs (top 17)) (defBody (top 17)) (defScope (top 17)) [] [] (He.fAd K ("_law_are_rates", none)) fd
  g_is_integer : mg "is_integer" = some (.ref (He.fAd K ("is_integer", none)))
  d_is_integer : ∃ fd, FunD K "is_integer" "is_integer" (defArgs (top 1)) (defBody (top 1)) (defScope (top 1)) [] [] (He.fAd K ("is_integer", none)) fd
  g_fits_event_form : mg "fits_event_form" = some (.ref (He.fAd K ("fits_event_form", none)))
  d_fits_event_form : ∃ fd, FunD K "fits_event_form" "fits_event_form" (defArgs (top 3)) (defBody (top 3)) (defScope (top 3)) [] [] (He.fAd K ("fits_event_form", none)) fd
  g_are_prices : mg "are_prices" = some (.ref (He.fAd K ("are_prices", none)))
  d_are_prices : ∃ fd, FunD K "are_prices" "are_prices" (defArgs (top 4)) (defBody (top 4)) (defScope (top 4)) [] [] (He.fAd K ("are_prices", none)) fd
  g_are_level : mg "are_level" = some (.ref (He.fAd K ("are_level", none)))
  d_are_level : ∃ fd, FunD K "are_level" "are_level" (defArgs (top 5)) (defBody (top 5)) (defScope (top 5)) [] [] (He.fAd K ("are_level", none)) fd
  g__law_are_flat : mg "_law_are_flat" = some (.ref (He.fAd K ("_law_are_flat", none)))
  d__law_are_flat : ∃ fd, FunD K "_law_are_flat" "_law_are_flat" (defArgs (top 18)) (defBody (top 18)) (defScope (top 18)) [] [] (He.fAd K ("_law_are_flat", none)) fd
  g__law_agrees : mg "_law_agrees" = some (.ref (He.fAd K ("_law_agrees", none)))
  d__law_agrees : ∃ fd, FunD K "_law_agrees" "_law_agrees" (defArgs (top 22)) (defBody (top 22)) (defScope (top 22)) [] [] (He.fAd K ("_law_agrees", none)) fd
  g_law : mg "law" = some (.ref (He.fAd K ("law", none)))
  d_law : ∃ fd, FunD K "law" "law" (defArgs (top 23)) (defBody (top 23)) (defScope (top 23)) [] [] (He.fAd K ("law", none)) fd
section
variable {P : Program} {w : World} {K : PySem.W.Frag} {mg : Str → Option Value} {base : Heap}
/-! ### _law_feed -/
abbrev N__law_feed : List Str := ["_law_script"]
theorem nd__law_feed : N__law_feed.Nodup := by decide +kernel
def m__law_feed : DS := dRet (dLst (dfCons (dCB (op1 listD) (dCons (dSlice (dVar 0) (dNo) (dPart (dC (.int 63)))) (dNil))) (dfCons (dC (.int 0)) (dfCons (dC (.int 0)) (dfCons (dC (.int 0)) (dfNil))))))
def fn__law_feed : Fn := fnOfD 1 m__law_feed
theorem has__law_feed (fx : Fx w K mg) : Has P w K mg base "_law_feed" (top 7) 1 ["_law_script"] fn__law_feed := by
  obtain ⟨fd, F⟩ := fx.d__law_feed
  exact has_of (N := N__law_feed) fx.g__law_feed F ⟨rfl, rfl, rfl, nd__law_feed, rfl, by decide +kernel, by decide +kernel⟩ (fun _ _ _ _ _ _ us hl => match us, hl with | [_], _ => rfl) fun cdv A outer s H E g tk ps =>
    dss_one (ds_ret (de_lst (fC (bT cr_list fx.fr.list boot_list (aC (de_slice (eV 0) (do_none) (do_some (de_int))) (da_nil))) (fC (de_int) (fC (de_int) (fC (de_int) (df_nil)))))))
/-! ### _law_draw -/
abbrev N__law_draw : List Str := ["_law_feed_here", "_law_limit", "_law_cell", "_law_mixed", "_law_digit_now"]
theorem nd__law_draw : N__law_draw.Nodup := by decide +kernel
def m__law_draw : DS := dSeq (dPut 0 (dC (.int 3)) (dBin addZ (dBin ixD (dVar 0) (dC (.int 3))) (dC (.int 1)))) (dSeq (dIfS (dB (dBin gtD (dBin ixD (dVar 0) (dC (.int 2))) (dC (.int 0)))) (dSeq (dSet 4 false (dBin modD (dBin ixD (dVar 0) (dC (.int 2))) (dVar 1))) (dSeq (dPut 0 (dC (.int 2)) (dBin fdivD (dBin ixD (dVar 0) (dC (.int 2))) (dVar 1))) (dRet (dVar 4)))) (dSkip)) (dSeq (dSet 2 false (dIf (dB (dBin neD (dBin ixD (dVar 0) (dC (.int 0))) (dLst (dfNil)))) (dBin ixD (dBin ixD (dVar 0) (dC (.int 0))) (dBin modD (dBin ixD (dVar 0) (dC (.int 1))) (dCB (op1 lenD) (dCons (dBin ixD (dVar 0) (dC (.int 0))) (dNil))))) (dC (.int 29)))) (dSeq (dPut 0 (dC (.int 1)) (dBin addZ (dBin ixD (dVar 0) (dC (.int 1))) (dC (.int 1)))) (dSeq (dIfS (dAnd (dB (dBin geD (dVar 2) (dBin powD (dC (.int 10)) (dC (.int 18))))) (dB (dBin leD (dBin ixD (dVar 0) (dC (.int 1))) (dCB (op1 lenD) (dCons (dBin ixD (dVar 0) (dC (.int 0))) (dNil)))))) (dSeq (dPut 0 (dC (.int 2)) (dBin fdivD (dVar 2) (dVar 1))) (dRet (dBin modD (dVar 2) (dVar 1)))) (dSkip)) (dSeq (dSet 3 false (dBin modD (dBin powD (dBin addZ (dBin addZ (dBin modD (dVar 2) (dC (.int 1000004803))) (dBin mulX (dBin mulX (dC (.int 131)) (dBin ixD (dVar 0) (dC (.int 3)))) (dBin addZ (dBin ixD (dVar 0) (dC (.int 3))) (dC (.int 5))))) (dC (.int 17))) (dC (.int 5))) (dC (.int 2147483249)))) (dRet (dBin modD (dBin fdivD (dBin modD (dBin powD (dBin addZ (dBin mulX (dVar 3) (dBin addZ (dBin mulX (dC (.int 2)) (dBin ixD (dVar 0) (dC (.int 3)))) (dC (.int 3)))) (dBin mulX (dC (.int 60101)) (dBin ixD (dVar 0) (dC (.int 3))))) (dC (.int 3))) (dC (.int 2147483237))) (dC (.int 64))) (dVar 1))))))))
def fn__law_draw : Fn := fnOfD 5 m__law_draw
theorem has__law_draw (fx : Fx w K mg) : Has P w K mg base "_law_draw" (top 8) 1 ["_law_feed_here", "_law_limit"] fn__law_draw := by
  obtain ⟨fd, F⟩ := fx.d__law_draw
  exact has_of (N := N__law_draw) fx.g__law_draw F ⟨rfl, rfl, rfl, nd__law_draw, rfl, by decide +kernel, by decide +kernel⟩ (fun _ _ _ _ _ _ us hl => match us, hl with | [_, _], _ => rfl) fun cdv A outer s H E g tk ps =>
    dss_cons (sPut 0 (de_int) (de_bin op_addZ (eIx (eV 0) (de_int)) (de_int))) (dss_cons (ds_if (tCmp op_gtD (eIx (eV 0) (de_int)) (de_int)) (dss_cons (sSet 4 nd__law_draw (de_bin op_modD (eIx (eV 0) (de_int)) (eV 1))) (dss_cons (sPut 0 (de_int) (de_bin op_fdivD (eIx (eV 0) (de_int)) (eV 1))) (dss_one (ds_ret (eV 4))))) (dss_nil)) (dss_cons (sSet 2 nd__law_draw (de_if (tCmp (op_neDD g.u5) (eIx (eV 0) (de_int)) (de_lst (df_nil))) (eIx (eIx (eV 0) (de_int)) (de_bin op_modD (eIx (eV 0) (de_int)) (bB cr_len fx.fr.len boot_len (aC (eIx (eV 0) (de_int)) (da_nil))))) (de_int))) (dss_cons (sPut 0 (de_int) (de_bin op_addZ (eIx (eV 0) (de_int)) (de_int))) (dss_cons (ds_if (tW (dw_and (tCmp op_geD (eV 2) (de_bin op_powD (de_int) (de_int))) (dw_and1 (tCmp op_leD (eIx (eV 0) (de_int)) (bB cr_len fx.fr.len boot_len (aC (eIx (eV 0) (de_int)) (da_nil))))))) (dss_cons (sPut 0 (de_int) (de_bin op_fdivD (eV 2) (eV 1))) (dss_one (ds_ret (de_bin op_modD (eV 2) (eV 1))))) (dss_nil)) (dss_cons (sSet 3 nd__law_draw (de_bin op_modD (de_bin op_powD (de_bin op_addZ (de_bin op_addZ (de_bin op_modD (eV 2) (de_int)) (de_bin op_mulX' (de_bin op_mulX' (de_int) (eIx (eV 0) (de_int))) (de_bin op_addZ (eIx (eV 0) (de_int)) (de_int)))) (de_int)) (de_int)) (de_int))) (dss_one (ds_ret (de_bin op_modD (de_bin op_fdivD (de_bin op_modD (de_bin op_powD (de_bin op_addZ (de_bin op_mulX' (eV 3) (de_bin op_addZ (de_bin op_mulX' (de_int) (eIx (eV 0) (de_int))) (de_int))) (de_bin op_mulX' (de_int) (eIx (eV 0) (de_int)))) (de_int)) (de_int)) (de_int)) (eV 1)))))))))
/-! ### _law_start -/
abbrev N__law_start : List Str := ["_law_feed_here", "_law_most_places", "_law_names", "_law_truth", "_law_start_here", "_law_name", "_law_k"]
theorem nd__law_start : N__law_start.Nodup := by decide +kernel
def m__law_start : DS := dSeq (dSet 2 false (dSlice (dLst (dfCons (dC (.str "a")) (dfCons (dC (.str "bb")) (dfCons (dC (.str "longname")) (dfCons (dC (.str "m")) (dfCons (dC (.str "n")) (dfCons (dC (.str "z")) (dfNil)))))))) (dNo) (dPart (dBin addZ (dC (.int 1)) (dCall fn__law_draw [true, false] (dCons (dVar 0) (dCons (dVar 1) (dNil)))))))) (dSeq (dSet 3 false (dLc (itA (dVar 2)) (pName 5) (dYes) (dCall fn__law_draw [true, false] (dCons (dVar 0) (dCons (dC (.int 2)) (dNil)))) [5])) (dSeq (dSet 4 false (dLc (itEn onS (dfCons (dVar 2) (dfNil))) (pTup (psCons (pName 6) (psCons (pName 5) (psNil)))) (dYes) (dTup (dfCons (dVar 5) (dfCons (dIf (dB (dBin gtD (dCall fn__law_draw [true, false] (dCons (dVar 0) (dCons (dC (.int 3)) (dNil)))) (dC (.int 0)))) (dBin ixD (dVar 3) (dVar 6)) (dC .none)) (dfNil)))) [6, 5])) (dRetP (dCB (op1 tupleD) (dCons (dVar 4) (dNil))) (dDict (dLc (itEn onS (dfCons (dVar 2) (dfNil))) (pTup (psCons (pName 6) (psCons (pName 5) (psNil)))) (dYes) (dTup (dfCons (dVar 5) (dfCons (dBin ixD (dVar 3) (dVar 6)) (dfNil)))) [6, 5])))))
def fn__law_start : Fn := fnOfD 7 m__law_start
theorem has__law_start (fx : Fx w K mg) : Has P w K mg base "_law_start" (top 10) 2 ["_law_feed_here", "_law_most_places"] fn__law_start := by
  obtain ⟨fd, F⟩ := fx.d__law_start
  exact has_of (N := N__law_start) fx.g__law_start F ⟨rfl, rfl, rfl, nd__law_start, rfl, by decide +kernel, by decide +kernel⟩ (fun _ _ _ _ _ _ us hl => match us, hl with | [_, _], _ => rfl) fun cdv A outer s H E g tk ps =>
    dss_cons (sSet 2 nd__law_start (de_slice (de_lst (fC (de_str) (fC (de_str) (fC (de_str) (fC (de_str) (fC (de_str) (fC (de_str) (df_nil)))))))) (do_none) (do_some (de_bin op_addZ (de_int) (eCall g tk (has__law_draw fx) (by decide) (aC (eV 0) (aC (eV 1) (da_nil))) (ln_cons (ln_cons ln_nil))))))) (dss_cons (sSet 3 nd__law_start (eLc (own := [("_law_name", 5)]) g.calm nd__law_start (by first | rfl | kernel_rfl) (di_any (eV 2)) (fun _ _ _ _ _ => ⟨gN 5 nd__law_start, ts0, eCall g.blk takes0 (has__law_draw fx) (by decide) (aC (eV 0) (aC (de_int) (da_nil))) (ln_cons (ln_cons ln_nil))⟩))) (dss_cons (sSetLc (own := [("_law_k", 6), ("_law_name", 5)]) 4 g.calm nd__law_start (by first | rfl | kernel_rfl) (iEn fx.fr.enumerate (fC (eV 2) (df_nil))) (fun _ _ _ _ _ => ⟨gT g.blk.calm (gC (gN 6 nd__law_start) (gC (gN 5 nd__law_start) (dgs_nil))), ts0, de_tup (fC (eV 5) (fC (de_if (tCmp op_gtD (eCall g.blk takes0 (has__law_draw fx) (by decide) (aC (eV 0) (aC (de_int) (da_nil))) (ln_cons (ln_cons ln_nil))) (de_int)) (eIx (eV 3) (eV 6)) (de_non)) (df_nil)))⟩)) (dss_one (sRetP (bT cr_tuple fx.fr.tuple boot_tuple (aC (eV 4) (da_nil))) (eDict g.calm fx.fr.dict (eLc (own := [("_law_k", 6), ("_law_name", 5)]) g.calm nd__law_start (by first | rfl | kernel_rfl) (iEn fx.fr.enumerate (fC (eV 2) (df_nil))) (fun _ _ _ _ _ => ⟨gT g.blk.calm (gC (gN 6 nd__law_start) (gC (gN 5 nd__law_start) (dgs_nil))), ts0, de_tup (fC (eV 5) (fC (eIx (eV 3) (eV 6)) (df_nil)))⟩)))))))
/-! ### _law_some_places -/
abbrev N__law_some_places : List Str := ["_law_feed_here", "_law_names", "_law_fewest", "_law_k", "_law_pool", "_law_found"]
theorem nd__law_some_places : N__law_some_places.Nodup := by decide +kernel
def m__law_some_places : DS := dSeq (dPar [4, 5] (dpCons true (dCB (op1 listD) (dCons (dVar 1) (dNil))) (dpCons true (dLst (dfNil)) (dpNil)))) (dSeq (dFor (itR rng1 (dfCons (dBin addZ (dVar 2) (dCall fn__law_draw [true, false] (dCons (dVar 0) (dCons (dBin addZ (dBin subD (dCB (op1 lenD) (dCons (dVar 1) (dNil))) (dVar 2)) (dC (.int 1))) (dNil))))) (dfNil))) (pName 3) (dDrop (dM appendO 5 (dfCons (dM popO 4 (dfCons (dCall fn__law_draw [true, false] (dCons (dVar 0) (dCons (dCB (op1 lenD) (dCons (dVar 4) (dNil))) (dNil)))) (dfNil))) (dfNil))))) (dRet (dCB (op1 tupleD) (dCons (dCB (op1 sortD) (dCons (dVar 5) (dNil))) (dNil)))))
def fn__law_some_places : Fn := fnOfD 6 m__law_some_places
theorem has__law_some_places (fx : Fx w K mg) : Has P w K mg base "_law_some_places" (top 11) 2 ["_law_feed_here", "_law_names", "_law_fewest"] fn__law_some_places := by
  obtain ⟨fd, F⟩ := fx.d__law_some_places
  exact has_of (N := N__law_some_places) fx.g__law_some_places F ⟨rfl, rfl, rfl, nd__law_some_places, rfl, by decide +kernel, by decide +kernel⟩ (fun _ _ _ _ _ _ us hl => match us, hl with | [_, _, _], _ => rfl) fun cdv A outer s H E g tk ps =>
    dss_cons (sPar (xs := ["_law_pool", "_law_found"]) g.calm nd__law_some_places (pC (bT cr_list fx.fr.list boot_list (aC (eV 1) (da_nil))) (pC (de_lst (df_nil)) (dp_nil))) (.cons ⟨rfl, rfl⟩ (.cons ⟨rfl, rfl⟩ (.nil)))) (dss_cons (sFor ps g.calm (iR1 fx.fr.range (fC (de_bin op_addZ (eV 2) (eCall g tk (has__law_draw fx) (by decide) (aC (eV 0) (aC (de_bin op_addZ (de_bin op_subD (bB cr_len fx.fr.len boot_len (aC (eV 1) (da_nil))) (eV 2)) (de_int)) (da_nil))) (ln_cons (ln_cons ln_nil)))) (df_nil))) (gN 3 nd__law_some_places) (dss_one (sE (mAppend 5 (fC (mPop 4 (fC (eCall g tk (has__law_draw fx) (by decide) (aC (eV 0) (aC (bB cr_len fx.fr.len boot_len (aC (eV 4) (da_nil))) (da_nil))) (ln_cons (ln_cons ln_nil))) (df_nil))) (df_nil)))))) (dss_one (ds_ret (bT cr_tuple fx.fr.tuple boot_tuple (aC (bB (cr_sortedD g.u) fx.fr.sorted boot_sorted (aC (eV 5) (da_nil))) (da_nil))))))
/-! ### _law_shuffled -/
abbrev N__law_shuffled : List Str := ["_law_feed_here", "_law_truth", "_law_some", "_law_marks", "_law_name"]
theorem nd__law_shuffled : N__law_shuffled.Nodup := by decide +kernel
def m__law_shuffled : DS := dSeq (dSet 3 true (dLc (itA (dVar 2)) (pName 4) (dYes) (dDGet 1 (dVar 4)) [4])) (dFor (itA (dVar 2)) (pName 4) (dDPut 1 (dVar 4) (dM popO 3 (dfCons (dCall fn__law_draw [true, false] (dCons (dVar 0) (dCons (dCB (op1 lenD) (dCons (dVar 3) (dNil))) (dNil)))) (dfNil)))))
def fn__law_shuffled : Fn := fnOfD 5 m__law_shuffled
theorem has__law_shuffled (fx : Fx w K mg) : Has P w K mg base "_law_shuffled" (top 12) 2 ["_law_feed_here", "_law_truth", "_law_some"] fn__law_shuffled := by
  obtain ⟨fd, F⟩ := fx.d__law_shuffled
  exact has_of (N := N__law_shuffled) fx.g__law_shuffled F ⟨rfl, rfl, rfl, nd__law_shuffled, rfl, by decide +kernel, by decide +kernel⟩ (fun _ _ _ _ _ _ us hl => match us, hl with | [_, _, _], _ => rfl) fun cdv A outer s H E g tk ps =>
    dss_cons (sSetLc (own := [("_law_name", 4)]) 3 g.calm nd__law_shuffled (by first | rfl | kernel_rfl) (di_any (eV 2)) (fun _ _ _ _ _ => ⟨gN 4 nd__law_shuffled, ts0, eDGet 1 g.blk.u5 (eV 4)⟩)) (dss_one (sFor ps g.calm (di_any (eV 2)) (gN 4 nd__law_shuffled) (dss_one (sDPut 1 g.u5 (eV 4) (mPop 3 (fC (eCall g tk (has__law_draw fx) (by decide) (aC (eV 0) (aC (bB cr_len fx.fr.len boot_len (aC (eV 3) (da_nil))) (da_nil))) (ln_cons (ln_cons ln_nil))) (df_nil)))))))
/-! ### _law_choice -/
abbrev N__law_choice : List Str := ["_law_feed_here", "_law_some"]
theorem nd__law_choice : N__law_choice.Nodup := by decide +kernel
def m__law_choice : DS := dRet (dBin ixD (dVar 1) (dCall fn__law_draw [true, false] (dCons (dVar 0) (dCons (dCB (op1 lenD) (dCons (dVar 1) (dNil))) (dNil)))))
def fn__law_choice : Fn := fnOfD 2 m__law_choice
theorem has__law_choice (fx : Fx w K mg) : Has P w K mg base "_law_choice" (top 9) 2 ["_law_feed_here", "_law_some"] fn__law_choice := by
  obtain ⟨fd, F⟩ := fx.d__law_choice
  exact has_of (N := N__law_choice) fx.g__law_choice F ⟨rfl, rfl, rfl, nd__law_choice, rfl, by decide +kernel, by decide +kernel⟩ (fun _ _ _ _ _ _ us hl => match us, hl with | [_, _], _ => rfl) fun cdv A outer s H E g tk ps =>
    dss_one (ds_ret (eIx (eV 1) (eCall g tk (has__law_draw fx) (by decide) (aC (eV 0) (aC (bB cr_len fx.fr.len boot_len (aC (eV 1) (da_nil))) (da_nil))) (ln_cons (ln_cons ln_nil)))))
/-! ### _law_event -/
abbrev N__law_event : List Str := ["_law_feed_here", "_law_truth", "_law_names", "_law_makes_report", "_law_wrong", "_law_way", "_law_some", "_law_person", "_law_name", "_law_number_now", "_law_one"]
theorem nd__law_event : N__law_event.Nodup := by decide +kernel
def m__law_event : DS := dSeq (dPar [7, 8] (dpCons false (dCall fn__law_choice [true, false] (dCons (dVar 0) (dCons (dLst (dfCons (dC (.str "ann")) (dfCons (dC (.str "bob")) (dfCons (dC (.str "cy")) (dfNil))))) (dNil)))) (dpCons false (dCall fn__law_choice [true, false] (dCons (dVar 0) (dCons (dVar 2) (dNil)))) (dpNil)))) (dSeq (dSet 4 false (dCB (op1 intD) (dCons (dBin eqD (dCall fn__law_draw [true, false] (dCons (dVar 0) (dCons (dC (.int 8)) (dNil)))) (dC (.int 0))) (dNil)))) (dSeq (dSet 5 false (dIf (dB (dVar 3)) (dCall fn__law_draw [true, false] (dCons (dVar 0) (dCons (dC (.int 2)) (dNil)))) (dBin addZ (dC (.int 2)) (dCall fn__law_draw [true, false] (dCons (dVar 0) (dCons (dC (.int 3)) (dNil))))))) (dSeq (dIfS (dB (dBin eqD (dVar 5) (dC (.int 0)))) (dRet (dTup (dfCons (dC (.str "look")) (dfCons (dVar 7) (dfCons (dVar 8) (dfCons (dBin modD (dBin addZ (dDGet 1 (dVar 8)) (dVar 4)) (dC (.int 2))) (dfNil))))))) (dSkip)) (dSeq (dIfS (dB (dBin eqD (dVar 5) (dC (.int 1)))) (dSeq (dSet 6 false (dCall fn__law_some_places [true, false, false] (dCons (dVar 0) (dCons (dVar 2) (dCons (dC (.int 1)) (dNil)))))) (dSeq (dSet 9 false (dBin modD (dBin addZ (dCB (op1 sumD) (dCons (dLc (itA (dVar 6)) (pName 10) (dYes) (dDGet 1 (dVar 10)) [10]) (dNil))) (dVar 4)) (dBin addZ (dCB (op1 lenD) (dCons (dVar 6) (dNil))) (dC (.int 1))))) (dSeq (dDrop (dCall fn__law_shuffled [true, true, false] (dCons (dVar 0) (dCons (dVar 1) (dCons (dVar 6) (dNil)))))) (dRet (dTup (dfCons (dC (.str "pour")) (dfCons (dVar 7) (dfCons (dVar 6) (dfCons (dVar 9) (dfNil)))))))))) (dSkip)) (dSeq (dIfS (dB (dBin eqD (dVar 5) (dC (.int 2)))) (dSeq (dDPut 1 (dVar 8) (dCall fn__law_draw [true, false] (dCons (dVar 0) (dCons (dC (.int 2)) (dNil))))) (dRet (dTup (dfCons (dC (.str "new")) (dfCons (dVar 8) (dfCons (dIf (dB (dBin eqD (dCall fn__law_draw [true, false] (dCons (dVar 0) (dCons (dC (.int 2)) (dNil)))) (dC (.int 0)))) (dDGet 1 (dVar 8)) (dC .none)) (dfNil))))))) (dSkip)) (dSeq (dIfS (dB (dBin ltD (dCB (op1 lenD) (dCons (dVar 2) (dNil))) (dC (.int 2)))) (dRet (dTup (dfCons (dC (.str "new")) (dfCons (dVar 8) (dfCons (dC .none) (dfNil)))))) (dSkip)) (dSeq (dSet 6 false (dCall fn__law_some_places [true, false, false] (dCons (dVar 0) (dCons (dVar 2) (dCons (dC (.int 2)) (dNil)))))) (dSeq (dDrop (dCall fn__law_shuffled [true, true, false] (dCons (dVar 0) (dCons (dVar 1) (dCons (dVar 6) (dNil)))))) (dRet (dTup (dfCons (dC (.str "mix")) (dfCons (dVar 7) (dfCons (dVar 6) (dfNil))))))))))))))
def fn__law_event : Fn := fnOfD 11 m__law_event
theorem has__law_event (fx : Fx w K mg) : Has P w K mg base "_law_event" (top 13) 3 ["_law_feed_here", "_law_truth", "_law_names", "_law_makes_report"] fn__law_event := by
  obtain ⟨fd, F⟩ := fx.d__law_event
  exact has_of (N := N__law_event) fx.g__law_event F ⟨rfl, rfl, rfl, nd__law_event, rfl, by decide +kernel, by decide +kernel⟩ (fun _ _ _ _ _ _ us hl => match us, hl with | [_, _, _, _], _ => rfl) fun cdv A outer s H E g tk ps =>
    dss_cons (sPar (xs := ["_law_person", "_law_name"]) g.calm nd__law_event (pC (eCall g tk (has__law_choice fx) (by decide) (aC (eV 0) (aC (de_lst (fC (de_str) (fC (de_str) (fC (de_str) (df_nil))))) (da_nil))) (ln_cons (ln_cons ln_nil))) (pC (eCall g tk (has__law_choice fx) (by decide) (aC (eV 0) (aC (eV 2) (da_nil))) (ln_cons (ln_cons ln_nil))) (dp_nil))) (.cons ⟨rfl, rfl⟩ (.cons ⟨rfl, rfl⟩ (.nil)))) (dss_cons (sSet 4 nd__law_event (bT cr_int fx.fr.int boot_int (aC (eCmp (op_eqDD g.u5) (eCall g tk (has__law_draw fx) (by decide) (aC (eV 0) (aC (de_int) (da_nil))) (ln_cons (ln_cons ln_nil))) (de_int)) (da_nil)))) (dss_cons (sSet 5 nd__law_event (de_if (tVal (eV 3)) (eCall g tk (has__law_draw fx) (by decide) (aC (eV 0) (aC (de_int) (da_nil))) (ln_cons (ln_cons ln_nil))) (de_bin op_addZ (de_int) (eCall g tk (has__law_draw fx) (by decide) (aC (eV 0) (aC (de_int) (da_nil))) (ln_cons (ln_cons ln_nil)))))) (dss_cons (ds_if (tCmp (op_eqDD g.u5) (eV 5) (de_int)) (dss_one (ds_ret (de_tup (fC (de_str) (fC (eV 7) (fC (eV 8) (fC (de_bin op_modD (de_bin op_addZ (eDGet 1 g.u5 (eV 8)) (eV 4)) (de_int)) (df_nil)))))))) (dss_nil)) (dss_cons (ds_if (tCmp (op_eqDD g.u5) (eV 5) (de_int)) (dss_cons (sSet 6 nd__law_event (eCall g tk (has__law_some_places fx) (by decide) (aC (eV 0) (aC (eV 2) (aC (de_int) (da_nil)))) (ln_cons (ln_cons (ln_cons ln_nil))))) (dss_cons (sSet 9 nd__law_event (de_bin op_modD (de_bin op_addZ (bB (cr_sumD g.calm) fx.fr.sum boot_sum (aC (eLc (own := [("_law_one", 10)]) g.calm nd__law_event (by first | rfl | kernel_rfl) (di_any (eV 6)) (fun _ _ _ _ _ => ⟨gN 10 nd__law_event, ts0, eDGet 1 g.blk.u5 (eV 10)⟩)) (da_nil))) (eV 4)) (de_bin op_addZ (bB cr_len fx.fr.len boot_len (aC (eV 6) (da_nil))) (de_int)))) (dss_cons (sE (eCall g tk (has__law_shuffled fx) (by decide) (aC (eV 0) (aC (eV 1) (aC (eV 6) (da_nil)))) (ln_cons (ln_cons (ln_cons ln_nil))))) (dss_one (ds_ret (de_tup (fC (de_str) (fC (eV 7) (fC (eV 6) (fC (eV 9) (df_nil))))))))))) (dss_nil)) (dss_cons (ds_if (tCmp (op_eqDD g.u5) (eV 5) (de_int)) (dss_cons (sDPut 1 g.u5 (eV 8) (eCall g tk (has__law_draw fx) (by decide) (aC (eV 0) (aC (de_int) (da_nil))) (ln_cons (ln_cons ln_nil)))) (dss_one (ds_ret (de_tup (fC (de_str) (fC (eV 8) (fC (de_if (tCmp (op_eqDD g.u5) (eCall g tk (has__law_draw fx) (by decide) (aC (eV 0) (aC (de_int) (da_nil))) (ln_cons (ln_cons ln_nil))) (de_int)) (eDGet 1 g.u5 (eV 8)) (de_non)) (df_nil)))))))) (dss_nil)) (dss_cons (ds_if (tCmp op_ltD (bB cr_len fx.fr.len boot_len (aC (eV 2) (da_nil))) (de_int)) (dss_one (ds_ret (de_tup (fC (de_str) (fC (eV 8) (fC (de_non) (df_nil))))))) (dss_nil)) (dss_cons (sSet 6 nd__law_event (eCall g tk (has__law_some_places fx) (by decide) (aC (eV 0) (aC (eV 2) (aC (de_int) (da_nil)))) (ln_cons (ln_cons (ln_cons ln_nil))))) (dss_cons (sE (eCall g tk (has__law_shuffled fx) (by decide) (aC (eV 0) (aC (eV 1) (aC (eV 6) (da_nil)))) (ln_cons (ln_cons (ln_cons ln_nil))))) (dss_one (ds_ret (de_tup (fC (de_str) (fC (eV 7) (fC (eV 6) (df_nil)))))))))))))))
/-! ### _law_case -/
abbrev N__law_case : List Str := ["_law_feed_here", "_law_most_places", "_law_most_events", "_law_most_reports", "_law_k", "_law_start_here", "_law_truth", "_law_names", "_law_events", "_law_report_ids", "_law_makes_report", "_law_name", "_law_mark"]
theorem nd__law_case : N__law_case.Nodup := by decide +kernel
def m__law_case : DS := dSeq (dUnP 5 6 (dCall fn__law_start [true, false] (dCons (dVar 0) (dCons (dVar 1) (dNil))))) (dSeq (dPar [7, 8, 9] (dpCons false (dLc (itA (dVar 5)) (pTup (psCons (pName 11) (psCons (pName 12) (psNil)))) (dYes) (dVar 11) [11, 12]) (dpCons true (dLst (dfNil)) (dpCons false (dC (.int 0)) (dpNil))))) (dSeq (dFor (itR rng1 (dfCons (dCall fn__law_draw [true, false] (dCons (dVar 0) (dCons (dBin addZ (dVar 2) (dC (.int 1))) (dNil)))) (dfNil))) (pName 4) (dSeq (dSet 10 false (dAndV (dBin ltD (dVar 9) (dVar 3)) (dBin eqD (dCall fn__law_draw [true, false] (dCons (dVar 0) (dCons (dC (.int 2)) (dNil)))) (dC (.int 0))))) (dSeq (dDrop (dM appendO 8 (dfCons (dCall fn__law_event [true, true, false, false] (dCons (dVar 0) (dCons (dVar 6) (dCons (dVar 7) (dCons (dVar 10) (dNil)))))) (dfNil)))) (dSet 9 false (dBin addZ (dVar 9) (dCB (op1 intD) (dCons (dVar 10) (dNil)))))))) (dRet (dTup (dfCons (dVar 5) (dfCons (dCB (op1 tupleD) (dCons (dVar 8) (dNil))) (dfNil)))))))
def fn__law_case : Fn := fnOfD 13 m__law_case
theorem has__law_case (fx : Fx w K mg) : Has P w K mg base "_law_case" (top 14) 4 ["_law_feed_here", "_law_most_places", "_law_most_events", "_law_most_reports"] fn__law_case := by
  obtain ⟨fd, F⟩ := fx.d__law_case
  exact has_of (N := N__law_case) fx.g__law_case F ⟨rfl, rfl, rfl, nd__law_case, rfl, by decide +kernel, by decide +kernel⟩ (fun _ _ _ _ _ _ us hl => match us, hl with | [_, _, _, _], _ => rfl) fun cdv A outer s H E g tk ps =>
    dss_cons (sUnP 5 6 g.calm nd__law_case (eCall g tk (has__law_start fx) (by decide) (aC (eV 0) (aC (eV 1) (da_nil))) (ln_cons (ln_cons ln_nil)))) (dss_cons (sPar (xs := ["_law_names", "_law_events", "_law_report_ids"]) g.calm nd__law_case (pC (eLc (own := [("_law_name", 11), ("_law_mark", 12)]) g.calm nd__law_case (by first | rfl | kernel_rfl) (di_any (eV 5)) (fun _ _ _ _ _ => ⟨gT g.blk.calm (gC (gN 11 nd__law_case) (gC (gN 12 nd__law_case) (dgs_nil))), ts0, eV 11⟩)) (pC (de_lst (df_nil)) (pC (de_int) (dp_nil)))) (.cons ⟨rfl, rfl⟩ (.cons ⟨rfl, rfl⟩ (.cons ⟨rfl, rfl⟩ (.nil))))) (dss_cons (sFor ps g.calm (iR1 fx.fr.range (fC (eCall g tk (has__law_draw fx) (by decide) (aC (eV 0) (aC (de_bin op_addZ (eV 2) (de_int)) (da_nil))) (ln_cons (ln_cons ln_nil))) (df_nil))) (gN 4 nd__law_case) (dss_cons (sSet 10 nd__law_case (de_and (eCmp op_ltD (eV 9) (eV 3)) (de_one (eCmp (op_eqDD g.u5) (eCall g tk (has__law_draw fx) (by decide) (aC (eV 0) (aC (de_int) (da_nil))) (ln_cons (ln_cons ln_nil))) (de_int))))) (dss_cons (sE (mAppend 8 (fC (eCall g tk (has__law_event fx) (by decide) (aC (eV 0) (aC (eV 6) (aC (eV 7) (aC (eV 10) (da_nil))))) (ln_cons (ln_cons (ln_cons (ln_cons ln_nil))))) (df_nil)))) (dss_one (sSet 9 nd__law_case (de_bin op_addZ (eV 9) (bT cr_int fx.fr.int boot_int (aC (eV 10) (da_nil))))))))) (dss_one (ds_ret (de_tup (fC (eV 5) (fC (bT cr_tuple fx.fr.tuple boot_tuple (aC (eV 8) (da_nil))) (df_nil))))))))
/-! ### _law_rates -/
abbrev N__law_rates : List Str := ["_law_feed_here", "_law_case_here", "_law_is_flat", "_law_found", "_law_event_here", "_law_rate", "_law_name"]
theorem nd__law_rates : N__law_rates.Nodup := by decide +kernel
def m__law_rates : DS := dSeq (dSet 3 true (dLst (dfNil))) (dSeq (dFor (itA (dBin ixD (dVar 1) (dC (.int 1)))) (pName 4) (dIfS (dB (dBin eqD (dBin ixD (dVar 4) (dC (.int 0))) (dC (.str "mix")))) (dSeq (dSet 5 false (dBin subD (dCall fn__law_draw [true, false] (dCons (dVar 0) (dCons (dC (.int 7)) (dNil)))) (dC (.int 3)))) (dDrop (dM appendO 3 (dfCons (dCB (op1 tupleD) (dCons (dLc (itA (dBin ixD (dVar 4) (dC (.int 2)))) (pName 6) (dYes) (dIf (dB (dVar 2)) (dVar 5) (dBin subD (dCall fn__law_draw [true, false] (dCons (dVar 0) (dCons (dC (.int 7)) (dNil)))) (dC (.int 3)))) [6]) (dNil))) (dfNil))))) (dIfS (dB (dBin eqD (dBin ixD (dVar 4) (dC (.int 0))) (dC (.str "pour")))) (dDrop (dM appendO 3 (dfCons (dTup (dfCons (dBin subD (dCall fn__law_draw [true, false] (dCons (dVar 0) (dCons (dC (.int 7)) (dNil)))) (dC (.int 3))) (dfCons (dBin subD (dCall fn__law_draw [true, false] (dCons (dVar 0) (dCons (dC (.int 7)) (dNil)))) (dC (.int 3))) (dfNil)))) (dfNil)))) (dDrop (dM appendO 3 (dfCons (dC .none) (dfNil))))))) (dRet (dCB (op1 tupleD) (dCons (dVar 3) (dNil)))))
def fn__law_rates : Fn := fnOfD 7 m__law_rates
theorem has__law_rates (fx : Fx w K mg) : Has P w K mg base "_law_rates" (top 15) 2 ["_law_feed_here", "_law_case_here", "_law_is_flat"] fn__law_rates := by
  obtain ⟨fd, F⟩ := fx.d__law_rates
  exact has_of (N := N__law_rates) fx.g__law_rates F ⟨rfl, rfl, rfl, nd__law_rates, rfl, by decide +kernel, by decide +kernel⟩ (fun _ _ _ _ _ _ us hl => match us, hl with | [_, _, _], _ => rfl) fun cdv A outer s H E g tk ps =>
    dss_cons (sSet 3 nd__law_rates (de_lst (df_nil))) (dss_cons (sFor ps g.calm (di_any (eIx (eV 1) (de_int))) (gN 4 nd__law_rates) (dss_one (ds_if (tCmp (op_eqDD g.u5) (eIx (eV 4) (de_int)) (de_str)) (dss_cons (sSet 5 nd__law_rates (de_bin op_subD (eCall g tk (has__law_draw fx) (by decide) (aC (eV 0) (aC (de_int) (da_nil))) (ln_cons (ln_cons ln_nil))) (de_int))) (dss_one (sE (mAppend 3 (fC (bT cr_tuple fx.fr.tuple boot_tuple (aC (eLc (own := [("_law_name", 6)]) g.calm nd__law_rates (by first | rfl | kernel_rfl) (di_any (eIx (eV 4) (de_int))) (fun _ _ _ _ _ => ⟨gN 6 nd__law_rates, ts0, de_if (tVal (eV 2)) (eV 5) (de_bin op_subD (eCall g.blk takes0 (has__law_draw fx) (by decide) (aC (eV 0) (aC (de_int) (da_nil))) (ln_cons (ln_cons ln_nil))) (de_int))⟩)) (da_nil))) (df_nil)))))) (dss_one (ds_if (tCmp (op_eqDD g.u5) (eIx (eV 4) (de_int)) (de_str)) (dss_one (sE (mAppend 3 (fC (de_tup (fC (de_bin op_subD (eCall g tk (has__law_draw fx) (by decide) (aC (eV 0) (aC (de_int) (da_nil))) (ln_cons (ln_cons ln_nil))) (de_int)) (fC (de_bin op_subD (eCall g tk (has__law_draw fx) (by decide) (aC (eV 0) (aC (de_int) (da_nil))) (ln_cons (ln_cons ln_nil))) (de_int)) (df_nil)))) (df_nil))))) (dss_one (sE (mAppend 3 (fC (de_non) (df_nil)))))))))) (dss_one (ds_ret (bT cr_tuple fx.fr.tuple boot_tuple (aC (eV 3) (da_nil))))))
/-! ### _law_variants -/
abbrev N__law_variants : List Str := ["_law_case_here", "_law_rates_here", "_law_found", "_law_k", "_law_rate", "_law_other"]
theorem nd__law_variants : N__law_variants.Nodup := by decide +kernel
def m__law_variants : DS := dSeq (dSet 2 true (dLst (dfCons (dVar 1) (dfCons (dSlice (dVar 1) (dPart (dC (.int 1))) (dNo)) (dfCons (dSlice (dVar 1) (dNo) (dPart (dNeg (dC (.int 1))))) (dfCons (dBin addZ (dVar 1) (dTup (dfCons (dC .none) (dfNil)))) (dfCons (dBin addZ (dVar 1) (dTup (dfCons (dTup (dfCons (dC (.int 0)) (dfCons (dC (.int 0)) (dfNil)))) (dfNil)))) (dfCons (dCB (op1 listD) (dCons (dVar 1) (dNil))) (dfCons (dC .none) (dfCons (dTup (dfNil)) (dfCons (dC (.bool true)) (dfCons (dC (.str "prices")) (dfNil))))))))))))) (dSeq (dFor (itEn onS (dfCons (dVar 1) (dfNil))) (pTup (psCons (pName 3) (psCons (pName 4) (psNil)))) (dFor (itA (dTup (dfCons (dC .none) (dfCons (dTup (dfNil)) (dfCons (dTup (dfCons (dC (.int 0)) (dfNil))) (dfCons (dTup (dfCons (dC (.int 0)) (dfCons (dC (.int 0)) (dfNil)))) (dfCons (dTup (dfCons (dC (.int 0)) (dfCons (dC (.int 0)) (dfCons (dC (.int 0)) (dfNil))))) (dfCons (dTup (dfCons (dC (.bool true)) (dfCons (dC (.int 0)) (dfNil)))) (dfCons (dTup (dfCons (dC (.int 0)) (dfCons (dC .none) (dfNil)))) (dfCons (dLst (dfCons (dC (.int 0)) (dfCons (dC (.int 0)) (dfNil)))) (dfCons (dC (.int 0)) (dfCons (dTup (dfCons (dBin powD (dC (.int 10)) (dC (.int 50))) (dfCons (dNeg (dC (.int 1))) (dfNil)))) (dfNil))))))))))))) (pName 5) (dDrop (dM appendO 2 (dfCons (dBin addZ (dBin addZ (dSlice (dVar 1) (dNo) (dPart (dVar 3))) (dTup (dfCons (dVar 5) (dfNil)))) (dSlice (dVar 1) (dPart (dBin addZ (dVar 3) (dC (.int 1)))) (dNo))) (dfNil)))))) (dRet (dVar 2)))
def fn__law_variants : Fn := fnOfD 6 m__law_variants
theorem has__law_variants (fx : Fx w K mg) : Has P w K mg base "_law_variants" (top 21) 1 ["_law_case_here", "_law_rates_here"] fn__law_variants := by
  obtain ⟨fd, F⟩ := fx.d__law_variants
  exact has_of (N := N__law_variants) fx.g__law_variants F ⟨rfl, rfl, rfl, nd__law_variants, rfl, by decide +kernel, by decide +kernel⟩ (fun _ _ _ _ _ _ us hl => match us, hl with | [_, _], _ => rfl) fun cdv A outer s H E g tk ps =>
    dss_cons (sSet 2 nd__law_variants (de_lst (fC (eV 1) (fC (de_slice (eV 1) (do_some (de_int)) (do_none)) (fC (de_slice (eV 1) (do_none) (do_some (eNeg (de_int)))) (fC (de_bin op_addZ (eV 1) (de_tup (fC (de_non) (df_nil)))) (fC (de_bin op_addZ (eV 1) (de_tup (fC (de_tup (fC (de_int) (fC (de_int) (df_nil)))) (df_nil)))) (fC (bT cr_list fx.fr.list boot_list (aC (eV 1) (da_nil))) (fC (de_non) (fC (de_tup (df_nil)) (fC (de_bl) (fC (de_str) (df_nil))))))))))))) (dss_cons (sFor ps g.calm (iEn fx.fr.enumerate (fC (eV 1) (df_nil))) (gT g.calm (gC (gN 3 nd__law_variants) (gC (gN 4 nd__law_variants) (dgs_nil)))) (dss_one (sFor ps g.calm (di_any (de_tup (fC (de_non) (fC (de_tup (df_nil)) (fC (de_tup (fC (de_int) (df_nil))) (fC (de_tup (fC (de_int) (fC (de_int) (df_nil)))) (fC (de_tup (fC (de_int) (fC (de_int) (fC (de_int) (df_nil))))) (fC (de_tup (fC (de_bl) (fC (de_int) (df_nil)))) (fC (de_tup (fC (de_int) (fC (de_non) (df_nil)))) (fC (de_lst (fC (de_int) (fC (de_int) (df_nil)))) (fC (de_int) (fC (de_tup (fC (de_bin op_powD (de_int) (de_int)) (fC (eNeg (de_int)) (df_nil)))) (df_nil))))))))))))) (gN 5 nd__law_variants) (dss_one (sE (mAppend 2 (fC (de_bin op_addZ (de_bin op_addZ (de_slice (eV 1) (do_none) (do_some (eV 3))) (de_tup (fC (eV 5) (df_nil)))) (de_slice (eV 1) (do_some (de_bin op_addZ (eV 3) (de_int))) (do_none))) (df_nil)))))))) (dss_one (ds_ret (eV 2))))
/-! ### _law_replacement -/
abbrev N__law_replacement : List Str := ["_law_feed_here", "_law_item", "_law_at", "_law_some"]
theorem nd__law_replacement : N__law_replacement.Nodup := by decide +kernel
def m__law_replacement : DS := dSeq (dIfS (dB (dIsi "tuple" (dVar 1))) (dSeq (dSet 2 false (dCall fn__law_draw [true, false] (dCons (dVar 0) (dCons (dBin addZ (dCB (op1 lenD) (dCons (dVar 1) (dNil))) (dC (.int 1))) (dNil))))) (dSeq (dSet 3 false (dLst (dfCons (dBin addZ (dSlice (dVar 1) (dNo) (dPart (dVar 2))) (dSlice (dVar 1) (dPart (dBin addZ (dVar 2) (dC (.int 1)))) (dNo))) (dfCons (dBin addZ (dVar 1) (dSlice (dVar 1) (dPart (dNeg (dC (.int 1)))) (dNo))) (dfCons (dRev (dVar 1)) (dfCons (dCB (op1 listD) (dCons (dVar 1) (dNil))) (dfNil))))))) (dRet (dBin ixD (dBin addZ (dVar 3) (dLst (dfCons (dTup (dfNil)) (dfCons (dC .none) (dfCons (dBin addZ (dBin addZ (dSlice (dVar 1) (dNo) (dPart (dVar 2))) (dTup (dfCons (dC .none) (dfNil)))) (dSlice (dVar 1) (dPart (dVar 2)) (dNo))) (dfNil)))))) (dCall fn__law_draw [true, false] (dCons (dVar 0) (dCons (dC (.int 7)) (dNil)))))))) (dSkip)) (dSeq (dIfS (dB (dIsi "str" (dVar 1))) (dRet (dCall fn__law_choice [true, false] (dCons (dVar 0) (dCons (dLst (dfCons (dBin addZ (dVar 1) (dC (.str "x"))) (dfCons (dSlice (dVar 1) (dPart (dC (.int 1))) (dNo)) (dfCons (dC (.str "A")) (dfCons (dC (.str "")) (dfCons (dC (.str "a")) (dfCons (dC (.str "bb")) (dfCons (dC (.str "range")) (dfCons (dC (.str "none")) (dfCons (dC (.str "clash")) (dfCons (dC (.str "within")) (dfCons (dC (.int 0)) (dfNil))))))))))))) (dNil))))) (dSkip)) (dSeq (dIfS (dAnd (dB (dIsi "int" (dVar 1))) (dNot (dB (dIsi "bool" (dVar 1))))) (dRet (dBin ixD (dLst (dfCons (dBin addZ (dVar 1) (dC (.int 1))) (dfCons (dBin subD (dVar 1) (dC (.int 1))) (dfCons (dC (.int 0)) (dfCons (dNeg (dC (.int 1))) (dfCons (dBin powD (dC (.int 10)) (dC (.int 40))) (dfCons (dBin eqD (dVar 1) (dC (.int 1))) (dfCons (dC (.str "5")) (dfCons (dC (.int 2)) (dfNil)))))))))) (dCall fn__law_draw [true, false] (dCons (dVar 0) (dCons (dC (.int 8)) (dNil)))))) (dSkip)) (dRet (dCall fn__law_choice [true, false] (dCons (dVar 0) (dCons (dLst (dfCons (dC (.int 0)) (dfCons (dC (.str "a")) (dfCons (dTup (dfNil)) (dfCons (dC (.bool true)) (dfCons (dTup (dfCons (dC (.int 0)) (dfCons (dC (.int 0)) (dfNil)))) (dfCons (dTup (dfCons (dC (.int 1)) (dfCons (dNeg (dC (.int 1))) (dfNil)))) (dfNil)))))))) (dNil)))))))
def fn__law_replacement : Fn := fnOfD 4 m__law_replacement
theorem has__law_replacement (fx : Fx w K mg) : Has P w K mg base "_law_replacement" (top 19) 3 ["_law_feed_here", "_law_item"] fn__law_replacement := by
  obtain ⟨fd, F⟩ := fx.d__law_replacement
  exact has_of (N := N__law_replacement) fx.g__law_replacement F ⟨rfl, rfl, rfl, nd__law_replacement, rfl, by decide +kernel, by decide +kernel⟩ (fun _ _ _ _ _ _ us hl => match us, hl with | [_, _], _ => rfl) fun cdv A outer s H E g tk ps =>
    dss_cons (ds_if (tVal (eIsi fx.fr.isinstance fx.fr.tuple boot_tuple (eV 1))) (dss_cons (sSet 2 nd__law_replacement (eCall g tk (has__law_draw fx) (by decide) (aC (eV 0) (aC (de_bin op_addZ (bB cr_len fx.fr.len boot_len (aC (eV 1) (da_nil))) (de_int)) (da_nil))) (ln_cons (ln_cons ln_nil)))) (dss_cons (sSet 3 nd__law_replacement (de_lst (fC (de_bin op_addZ (de_slice (eV 1) (do_none) (do_some (eV 2))) (de_slice (eV 1) (do_some (de_bin op_addZ (eV 2) (de_int))) (do_none))) (fC (de_bin op_addZ (eV 1) (de_slice (eV 1) (do_some (eNeg (de_int))) (do_none))) (fC (eRev (eV 1)) (fC (bT cr_list fx.fr.list boot_list (aC (eV 1) (da_nil))) (df_nil))))))) (dss_one (ds_ret (eIx (de_bin op_addZ (eV 3) (de_lst (fC (de_tup (df_nil)) (fC (de_non) (fC (de_bin op_addZ (de_bin op_addZ (de_slice (eV 1) (do_none) (do_some (eV 2))) (de_tup (fC (de_non) (df_nil)))) (de_slice (eV 1) (do_some (eV 2)) (do_none))) (df_nil)))))) (eCall g tk (has__law_draw fx) (by decide) (aC (eV 0) (aC (de_int) (da_nil))) (ln_cons (ln_cons ln_nil)))))))) (dss_nil)) (dss_cons (ds_if (tVal (eIsi fx.fr.isinstance fx.fr.str boot_str (eV 1))) (dss_one (ds_ret (eCall g tk (has__law_choice fx) (by decide) (aC (eV 0) (aC (de_lst (fC (de_bin op_addZ (eV 1) (de_str)) (fC (de_slice (eV 1) (do_some (de_int)) (do_none)) (fC (de_str) (fC (de_str) (fC (de_str) (fC (de_str) (fC (de_str) (fC (de_str) (fC (de_str) (fC (de_str) (fC (de_int) (df_nil))))))))))))) (da_nil))) (ln_cons (ln_cons ln_nil))))) (dss_nil)) (dss_cons (ds_if (tW (dw_and (tVal (eIsi fx.fr.isinstance fx.fr.int boot_int (eV 1))) (dw_and1 (dt_not (tVal (eIsi fx.fr.isinstance fx.fr.bool boot_bool (eV 1))))))) (dss_one (ds_ret (eIx (de_lst (fC (de_bin op_addZ (eV 1) (de_int)) (fC (de_bin op_subD (eV 1) (de_int)) (fC (de_int) (fC (eNeg (de_int)) (fC (de_bin op_powD (de_int) (de_int)) (fC (eCmp (op_eqDD g.u5) (eV 1) (de_int)) (fC (de_str) (fC (de_int) (df_nil)))))))))) (eCall g tk (has__law_draw fx) (by decide) (aC (eV 0) (aC (de_int) (da_nil))) (ln_cons (ln_cons ln_nil)))))) (dss_nil)) (dss_one (ds_ret (eCall g tk (has__law_choice fx) (by decide) (aC (eV 0) (aC (de_lst (fC (de_int) (fC (de_str) (fC (de_tup (df_nil)) (fC (de_bl) (fC (de_tup (fC (de_int) (fC (de_int) (df_nil)))) (fC (de_tup (fC (de_int) (fC (eNeg (de_int)) (df_nil)))) (df_nil)))))))) (da_nil))) (ln_cons (ln_cons ln_nil)))))))
/-! ### _law_mutated -/
abbrev N__law_mutated : List Str := ["_law_feed_here", "_law_item", "_law_at"]
theorem nd__law_mutated : N__law_mutated.Nodup := by decide +kernel
def m__law_mutated (phi : Fn) : DS := dSeq (dIfS (dAnd (dB (dIsi "tuple" (dVar 1))) (dAnd (dB (dBin neD (dVar 1) (dTup (dfNil)))) (dB (dBin gtD (dCall fn__law_draw [true, false] (dCons (dVar 0) (dCons (dC (.int 6)) (dNil)))) (dC (.int 0)))))) (dSeq (dSet 2 false (dCall fn__law_draw [true, false] (dCons (dVar 0) (dCons (dCB (op1 lenD) (dCons (dVar 1) (dNil))) (dNil))))) (dRet (dBin addZ (dBin addZ (dSlice (dVar 1) (dNo) (dPart (dVar 2))) (dTup (dfCons (dCall phi [true, false] (dCons (dVar 0) (dCons (dBin ixD (dVar 1) (dVar 2)) (dNil)))) (dfNil)))) (dSlice (dVar 1) (dPart (dBin addZ (dVar 2) (dC (.int 1)))) (dNo))))) (dSkip)) (dRet (dCall fn__law_replacement [true, false] (dCons (dVar 0) (dCons (dVar 1) (dNil)))))
def fn__law_mutated : Nat → Fn
  | 0 => fnOfD 3 dStuck
  | n + 1 => fnOfD 3 (m__law_mutated (fn__law_mutated n))
theorem has__law_mutated (fx : Fx w K mg) : ∀ n : Nat, Has P w K mg base "_law_mutated" (top 20) (3 + n + 1) ["_law_feed_here", "_law_item"] (fn__law_mutated n)
  | 0 => by
    obtain ⟨fd, F⟩ := fx.d__law_mutated
    exact has_of (N := N__law_mutated) fx.g__law_mutated F ⟨rfl, rfl, rfl, nd__law_mutated, rfl, by decide +kernel, by decide +kernel⟩ (fun _ _ _ _ _ _ us hl => match us, hl with | [_, _], _ => rfl) fun cdv A outer s H E g tk ps => dss_stuck
  | n + 1 => by
    obtain ⟨fd, F⟩ := fx.d__law_mutated
    exact has_of (N := N__law_mutated) (k := 3 + (n + 1)) fx.g__law_mutated F ⟨rfl, rfl, rfl, nd__law_mutated, rfl, by decide +kernel, by decide +kernel⟩ (fun _ _ _ _ _ _ us hl => match us, hl with | [_, _], _ => rfl) fun cdv A outer s H E g tk ps =>
      dss_cons (ds_if (tW (dw_and (tVal (eIsi fx.fr.isinstance fx.fr.tuple boot_tuple (eV 1))) (dw_and (tCmp (op_neDD g.u5) (eV 1) (de_tup (df_nil))) (dw_and1 (tCmp op_gtD (eCall g tk (has__law_draw fx) (by omega) (aC (eV 0) (aC (de_int) (da_nil))) (ln_cons (ln_cons ln_nil))) (de_int)))))) (dss_cons (sSet 2 nd__law_mutated (eCall g tk (has__law_draw fx) (by omega) (aC (eV 0) (aC (bB cr_len fx.fr.len boot_len (aC (eV 1) (da_nil))) (da_nil))) (ln_cons (ln_cons ln_nil)))) (dss_one (ds_ret (de_bin op_addZ (de_bin op_addZ (de_slice (eV 1) (do_none) (do_some (eV 2))) (de_tup (fC (eCall g tk (has__law_mutated fx n) (by omega) (aC (eV 0) (aC (eIx (eV 1) (eV 2)) (da_nil))) (ln_cons (ln_cons ln_nil))) (df_nil)))) (de_slice (eV 1) (do_some (de_bin op_addZ (eV 2) (de_int))) (do_none)))))) (dss_nil)) (dss_one (ds_ret (eCall g tk (has__law_replacement fx) (by omega) (aC (eV 0) (aC (eV 1) (da_nil))) (ln_cons (ln_cons ln_nil)))))
/-! ### _law_is_integer -/
abbrev N__law_is_integer : List Str := ["_law_item"]
theorem nd__law_is_integer : N__law_is_integer.Nodup := by decide +kernel
def m__law_is_integer : DS := dRet (dAndV (dIsi "int" (dVar 0)) (dNotV (dIsi "bool" (dVar 0))))
def fn__law_is_integer : Fn := fnOfD 1 m__law_is_integer
theorem has__law_is_integer (fx : Fx w K mg) : Has P w K mg base "_law_is_integer" (top 16) 1 ["_law_item"] fn__law_is_integer := by
  obtain ⟨fd, F⟩ := fx.d__law_is_integer
  exact has_of (N := N__law_is_integer) fx.g__law_is_integer F ⟨rfl, rfl, rfl, nd__law_is_integer, rfl, by decide +kernel, by decide +kernel⟩ (fun _ _ _ _ _ _ us hl => match us, hl with | [_], _ => rfl) fun cdv A outer s H E g tk ps =>
    dss_one (ds_ret (de_and (eIsi fx.fr.isinstance fx.fr.int boot_int (eV 0)) (de_one (de_not (eIsi fx.fr.isinstance fx.fr.bool boot_bool (eV 0))))))
/-! ### _law_are_rates -/
abbrev N__law_are_rates : List Str := ["_law_case_here", "_law_item", "_law_k", "_law_event_here", "_law_size", "_law_one"]
theorem nd__law_are_rates : N__law_are_rates.Nodup := by decide +kernel
def m__law_are_rates : DS := dSeq (dIfS (dOr (dNot (dB (dIsi "tuple" (dVar 1)))) (dB (dBin neD (dCB (op1 lenD) (dCons (dVar 1) (dNil))) (dCB (op1 lenD) (dCons (dBin ixD (dVar 0) (dC (.int 1))) (dNil)))))) (dRet (dC (.bool false))) (dSkip)) (dSeq (dFor (itEn onS (dfCons (dBin ixD (dVar 0) (dC (.int 1))) (dfNil))) (pTup (psCons (pName 2) (psCons (pName 3) (psNil)))) (dSeq (dSet 4 false (dIf (dB (dBin eqD (dBin ixD (dVar 3) (dC (.int 0))) (dC (.str "pour")))) (dC (.int 2)) (dIf (dB (dBin eqD (dBin ixD (dVar 3) (dC (.int 0))) (dC (.str "mix")))) (dCB (op1 lenD) (dCons (dBin ixD (dVar 3) (dC (.int 2))) (dNil))) (dC (.int 0))))) (dSeq (dIfS (dAnd (dB (dBin eqD (dVar 4) (dC (.int 0)))) (dB (dBin (isN true) (dBin ixD (dVar 1) (dVar 2)) (dC .none)))) (dRet (dC (.bool false))) (dSkip)) (dSeq (dIfS (dAnd (dB (dBin gtD (dVar 4) (dC (.int 0)))) (dOr (dNot (dB (dIsi "tuple" (dBin ixD (dVar 1) (dVar 2))))) (dB (dBin neD (dCB (op1 lenD) (dCons (dBin ixD (dVar 1) (dVar 2)) (dNil))) (dVar 4))))) (dRet (dC (.bool false))) (dSkip)) (dIfS (dAnd (dB (dBin gtD (dVar 4) (dC (.int 0)))) (dB (dBin neD (dLc (itA (dBin ixD (dVar 1) (dVar 2))) (pName 5) (dNot (dB (dCall fn__law_is_integer [false] (dCons (dVar 5) (dNil))))) (dVar 5) [5]) (dLst (dfNil))))) (dRet (dC (.bool false))) (dSkip)))))) (dRet (dC (.bool true))))
def fn__law_are_rates : Fn := fnOfD 6 m__law_are_rates
theorem has__law_are_rates (fx : Fx w K mg) : Has P w K mg base "_law_are_rates" (top 17) 2 ["_law_case_here", "_law_item"] fn__law_are_rates := by
  obtain ⟨fd, F⟩ := fx.d__law_are_rates
  exact has_of (N := N__law_are_rates) fx.g__law_are_rates F ⟨rfl, rfl, rfl, nd__law_are_rates, rfl, by decide +kernel, by decide +kernel⟩ (fun _ _ _ _ _ _ us hl => match us, hl with | [_, _], _ => rfl) fun cdv A outer s H E g tk ps =>
    dss_cons (ds_if (tW (dw_or (dt_not (tVal (eIsi fx.fr.isinstance fx.fr.tuple boot_tuple (eV 1)))) (dw_or1 (tCmp (op_neDD g.u5) (bB cr_len fx.fr.len boot_len (aC (eV 1) (da_nil))) (bB cr_len fx.fr.len boot_len (aC (eIx (eV 0) (de_int)) (da_nil))))))) (dss_one (ds_ret (de_bl))) (dss_nil)) (dss_cons (sFor ps g.calm (iEn fx.fr.enumerate (fC (eIx (eV 0) (de_int)) (df_nil))) (gT g.calm (gC (gN 2 nd__law_are_rates) (gC (gN 3 nd__law_are_rates) (dgs_nil)))) (dss_cons (sSet 4 nd__law_are_rates (de_if (tCmp (op_eqDD g.u5) (eIx (eV 3) (de_int)) (de_str)) (de_int) (de_if (tCmp (op_eqDD g.u5) (eIx (eV 3) (de_int)) (de_str)) (bB cr_len fx.fr.len boot_len (aC (eIx (eV 3) (de_int)) (da_nil))) (de_int)))) (dss_cons (ds_if (tW (dw_and (tCmp (op_eqDD g.u5) (eV 4) (de_int)) (dw_and1 (tCmp (op_isND (neg := true) rfl) (eIx (eV 1) (eV 2)) (de_non))))) (dss_one (ds_ret (de_bl))) (dss_nil)) (dss_cons (ds_if (tW (dw_and (tCmp op_gtD (eV 4) (de_int)) (dw_and1 (tW (dw_or (dt_not (tVal (eIsi fx.fr.isinstance fx.fr.tuple boot_tuple (eIx (eV 1) (eV 2))))) (dw_or1 (tCmp (op_neDD g.u5) (bB cr_len fx.fr.len boot_len (aC (eIx (eV 1) (eV 2)) (da_nil))) (eV 4)))))))) (dss_one (ds_ret (de_bl))) (dss_nil)) (dss_one (ds_if (tW (dw_and (tCmp op_gtD (eV 4) (de_int)) (dw_and1 (tCmp (op_neDD g.u5) (eLc (own := [("_law_one", 5)]) g.calm nd__law_are_rates (by first | rfl | kernel_rfl) (di_any (eIx (eV 1) (eV 2))) (fun _ _ _ _ _ => ⟨gN 5 nd__law_are_rates, ts1 (dt_not (tVal (eCall g.blk takes0 (has__law_is_integer fx) (by decide) (aC (eV 5) (da_nil)) (ln_cons ln_nil)))), eV 5⟩)) (de_lst (df_nil)))))) (dss_one (ds_ret (de_bl))) (dss_nil))))))) (dss_one (ds_ret (de_bl))))
/-! ### is_integer -/
abbrev N_is_integer : List Str := ["thing"]
theorem nd_is_integer : N_is_integer.Nodup := by decide +kernel
def m_is_integer : DS := dRet (dAndV (dIsi "int" (dVar 0)) (dNotV (dIsi "bool" (dVar 0))))
def fn_is_integer : Fn := fnOfD 1 m_is_integer
theorem has_is_integer (fx : Fx w K mg) : Has P w K mg base "is_integer" (top 1) 1 ["thing"] fn_is_integer := by
  obtain ⟨fd, F⟩ := fx.d_is_integer
  exact has_of (N := N_is_integer) fx.g_is_integer F ⟨rfl, rfl, rfl, nd_is_integer, rfl, by decide +kernel, by decide +kernel⟩ (fun _ _ _ _ _ _ us hl => match us, hl with | [_], _ => rfl) fun cdv A outer s H E g tk ps =>
    dss_one (ds_ret (de_and (eIsi fx.fr.isinstance fx.fr.int boot_int (eV 0)) (de_one (de_not (eIsi fx.fr.isinstance fx.fr.bool boot_bool (eV 0))))))
/-! ### fits_event_form -/
abbrev N_fits_event_form : List Str := ["event", "entry", "size", "price"]
theorem nd_fits_event_form : N_fits_event_form.Nodup := by decide +kernel
def m_fits_event_form : DS := dSeq (dIfS (dB (dBin (inL false) (dBin ixD (dVar 0) (dC (.int 0))) (dTup (dfCons (dC (.str "new")) (dfCons (dC (.str "look")) (dfNil)))))) (dRet (dBin (isN false) (dVar 1) (dC .none))) (dSkip)) (dSeq (dSet 2 false (dIf (dB (dBin eqD (dBin ixD (dVar 0) (dC (.int 0))) (dC (.str "mix")))) (dCB (op1 lenD) (dCons (dBin ixD (dVar 0) (dC (.int 2))) (dNil))) (dC (.int 2)))) (dSeq (dIfS (dOr (dNot (dB (dIsi "tuple" (dVar 1)))) (dB (dBin neD (dCB (op1 lenD) (dCons (dVar 1) (dNil))) (dVar 2)))) (dRet (dC (.bool false))) (dSkip)) (dRet (dCB (op1 allD) (dCons (dLc (itA (dVar 1)) (pName 3) (dYes) (dCall fn_is_integer [false] (dCons (dVar 3) (dNil))) [3]) (dNil))))))
def fn_fits_event_form : Fn := fnOfD 4 m_fits_event_form
theorem has_fits_event_form (fx : Fx w K mg) : Has P w K mg base "fits_event_form" (top 3) 2 ["event", "entry"] fn_fits_event_form := by
  obtain ⟨fd, F⟩ := fx.d_fits_event_form
  exact has_of (N := N_fits_event_form) fx.g_fits_event_form F ⟨rfl, rfl, rfl, nd_fits_event_form, rfl, by decide +kernel, by decide +kernel⟩ (fun _ _ _ _ _ _ us hl => match us, hl with | [_, _], _ => rfl) fun cdv A outer s H E g tk ps =>
    dss_cons (ds_if (tCmp (op_inLD (neg := false) rfl g.u5) (eIx (eV 0) (de_int)) (de_tup (fC (de_str) (fC (de_str) (df_nil))))) (dss_one (ds_ret (eCmp (op_isND (neg := false) rfl) (eV 1) (de_non)))) (dss_nil)) (dss_cons (sSet 2 nd_fits_event_form (de_if (tCmp (op_eqDD g.u5) (eIx (eV 0) (de_int)) (de_str)) (bB cr_len fx.fr.len boot_len (aC (eIx (eV 0) (de_int)) (da_nil))) (de_int))) (dss_cons (ds_if (tW (dw_or (dt_not (tVal (eIsi fx.fr.isinstance fx.fr.tuple boot_tuple (eV 1)))) (dw_or1 (tCmp (op_neDD g.u5) (bB cr_len fx.fr.len boot_len (aC (eV 1) (da_nil))) (eV 2))))) (dss_one (ds_ret (de_bl))) (dss_nil)) (dss_one (ds_ret (bB (cr_allD g.calm) fx.fr.all boot_all (aC (eLc (own := [("price", 3)]) g.calm nd_fits_event_form (by first | rfl | kernel_rfl) (di_any (eV 1)) (fun _ _ _ _ _ => ⟨gN 3 nd_fits_event_form, ts0, eCall g.blk takes0 (has_is_integer fx) (by decide) (aC (eV 3) (da_nil)) (ln_cons ln_nil)⟩)) (da_nil)))))))
/-! ### are_prices -/
abbrev N_are_prices : List Str := ["history", "thing", "start", "events", "event", "entry"]
theorem nd_are_prices : N_are_prices.Nodup := by decide +kernel
def m_are_prices : DS := dSeq (dUn (pTup (psCons (pName 2) (psCons (pName 3) (psNil)))) (dVar 0)) (dSeq (dIfS (dOr (dNot (dB (dIsi "tuple" (dVar 1)))) (dB (dBin neD (dCB (op1 lenD) (dCons (dVar 1) (dNil))) (dCB (op1 lenD) (dCons (dVar 3) (dNil)))))) (dRet (dC (.bool false))) (dSkip)) (dRet (dCB (op1 allD) (dCons (dLc (itZ (dfCons (dVar 3) (dfCons (dVar 1) (dfNil)))) (pTup (psCons (pName 4) (psCons (pName 5) (psNil)))) (dYes) (dCall fn_fits_event_form [false, false] (dCons (dVar 4) (dCons (dVar 5) (dNil)))) [4, 5]) (dNil)))))
def fn_are_prices : Fn := fnOfD 6 m_are_prices
theorem has_are_prices (fx : Fx w K mg) : Has P w K mg base "are_prices" (top 4) 3 ["history", "thing"] fn_are_prices := by
  obtain ⟨fd, F⟩ := fx.d_are_prices
  exact has_of (N := N_are_prices) fx.g_are_prices F ⟨rfl, rfl, rfl, nd_are_prices, rfl, by decide +kernel, by decide +kernel⟩ (fun _ _ _ _ _ _ us hl => match us, hl with | [_, _], _ => rfl) fun cdv A outer s H E g tk ps =>
    dss_cons (sUn (eV 0) (gT g.calm (gC (gN 2 nd_are_prices) (gC (gN 3 nd_are_prices) (dgs_nil))))) (dss_cons (ds_if (tW (dw_or (dt_not (tVal (eIsi fx.fr.isinstance fx.fr.tuple boot_tuple (eV 1)))) (dw_or1 (tCmp (op_neDD g.u5) (bB cr_len fx.fr.len boot_len (aC (eV 1) (da_nil))) (bB cr_len fx.fr.len boot_len (aC (eV 3) (da_nil))))))) (dss_one (ds_ret (de_bl))) (dss_nil)) (dss_one (ds_ret (bB (cr_allD g.calm) fx.fr.all boot_all (aC (eLc (own := [("event", 4), ("entry", 5)]) g.calm nd_are_prices (by first | rfl | kernel_rfl) (iZ fx.fr.zip (fC (eV 3) (fC (eV 1) (df_nil)))) (fun _ _ _ _ _ => ⟨gT g.blk.calm (gC (gN 4 nd_are_prices) (gC (gN 5 nd_are_prices) (dgs_nil))), ts0, eCall g.blk takes0 (has_fits_event_form fx) (by decide) (aC (eV 4) (aC (eV 5) (da_nil))) (ln_cons (ln_cons ln_nil))⟩)) (da_nil))))))
/-! ### are_level -/
abbrev N_are_level : List Str := ["history", "prices", "start", "events", "event", "entry"]
theorem nd_are_level : N_are_level.Nodup := by decide +kernel
def m_are_level : DS := dSeq (dUn (pTup (psCons (pName 2) (psCons (pName 3) (psNil)))) (dVar 0)) (dRet (dCB (op1 allD) (dCons (dLc (itZ (dfCons (dVar 3) (dfCons (dVar 1) (dfNil)))) (pTup (psCons (pName 4) (psCons (pName 5) (psNil)))) (dB (dBin eqD (dBin ixD (dVar 4) (dC (.int 0))) (dC (.str "mix")))) (dBin eqD (dLenSet (dVar 5)) (dC (.int 1))) [4, 5]) (dNil))))
def fn_are_level : Fn := fnOfD 6 m_are_level
theorem has_are_level (fx : Fx w K mg) : Has P w K mg base "are_level" (top 5) 1 ["history", "prices"] fn_are_level := by
  obtain ⟨fd, F⟩ := fx.d_are_level
  exact has_of (N := N_are_level) fx.g_are_level F ⟨rfl, rfl, rfl, nd_are_level, rfl, by decide +kernel, by decide +kernel⟩ (fun _ _ _ _ _ _ us hl => match us, hl with | [_, _], _ => rfl) fun cdv A outer s H E g tk ps =>
    dss_cons (sUn (eV 0) (gT g.calm (gC (gN 2 nd_are_level) (gC (gN 3 nd_are_level) (dgs_nil))))) (dss_one (ds_ret (bB (cr_allD g.calm) fx.fr.all boot_all (aC (eLc (own := [("event", 4), ("entry", 5)]) g.calm nd_are_level (by first | rfl | kernel_rfl) (iZ fx.fr.zip (fC (eV 3) (fC (eV 1) (df_nil)))) (fun _ _ _ _ _ => ⟨gT g.blk.calm (gC (gN 4 nd_are_level) (gC (gN 5 nd_are_level) (dgs_nil))), ts1 (tCmp (op_eqDD g.blk.u5) (eIx (eV 4) (de_int)) (de_str)), eCmp (op_eqDD g.blk.u5) (eLenSet g.blk.calm fx.fr.len fx.fr.set (eV 5)) (de_int)⟩)) (da_nil)))))
/-! ### _law_are_flat -/
abbrev N__law_are_flat : List Str := ["_law_case_here", "_law_rates_here", "_law_k", "_law_event_here"]
theorem nd__law_are_flat : N__law_are_flat.Nodup := by decide +kernel
def m__law_are_flat : DS := dRet (dBin eqD (dLc (itEn onS (dfCons (dBin ixD (dVar 0) (dC (.int 1))) (dfNil))) (pTup (psCons (pName 2) (psCons (pName 3) (psNil)))) (dAnd (dB (dBin eqD (dBin ixD (dVar 3) (dC (.int 0))) (dC (.str "mix")))) (dB (dBin gtD (dLenSet (dBin ixD (dVar 1) (dVar 2))) (dC (.int 1))))) (dVar 2) [2, 3]) (dLst (dfNil)))
def fn__law_are_flat : Fn := fnOfD 4 m__law_are_flat
theorem has__law_are_flat (fx : Fx w K mg) : Has P w K mg base "_law_are_flat" (top 18) 1 ["_law_case_here", "_law_rates_here"] fn__law_are_flat := by
  obtain ⟨fd, F⟩ := fx.d__law_are_flat
  exact has_of (N := N__law_are_flat) fx.g__law_are_flat F ⟨rfl, rfl, rfl, nd__law_are_flat, rfl, by decide +kernel, by decide +kernel⟩ (fun _ _ _ _ _ _ us hl => match us, hl with | [_, _], _ => rfl) fun cdv A outer s H E g tk ps =>
    dss_one (ds_ret (eCmp (op_eqDD g.u5) (eLc (own := [("_law_k", 2), ("_law_event_here", 3)]) g.calm nd__law_are_flat (by first | rfl | kernel_rfl) (iEn fx.fr.enumerate (fC (eIx (eV 0) (de_int)) (df_nil))) (fun _ _ _ _ _ => ⟨gT g.blk.calm (gC (gN 2 nd__law_are_flat) (gC (gN 3 nd__law_are_flat) (dgs_nil))), ts1 (tW (dw_and (tCmp (op_eqDD g.blk.u5) (eIx (eV 3) (de_int)) (de_str)) (dw_and1 (tCmp op_gtD (eLenSet g.blk.calm fx.fr.len fx.fr.set (eIx (eV 1) (eV 2))) (de_int))))), eV 2⟩)) (de_lst (df_nil))))
/-! ### _law_agrees -/
abbrev N__law_agrees : List Str := ["_law_case_here", "_law_item", "_law_found", "_law_before", "_law_expected"]
theorem nd__law_agrees : N__law_agrees.Nodup := by decide +kernel
def m__law_agrees : DS := dSeq (dPar [3, 4] (dpCons false (dCB (op1 reprD) (dCons (dTup (dfCons (dVar 0) (dfCons (dVar 1) (dfNil)))) (dNil))) (dpCons false (dCall fn__law_are_rates [false, false] (dCons (dVar 0) (dCons (dVar 1) (dNil)))) (dpNil)))) (dSeq (dSet 2 false (dLst (dfCons (dCall fn_are_prices [false, false] (dCons (dVar 0) (dCons (dVar 1) (dNil)))) (dfCons (dCallP fn_are_prices [false, false] [1, 0] (dCons (dVar 1) (dCons (dVar 0) (dNil)))) (dfNil))))) (dSeq (dIfS (dB (dBin neD (dCB (op1 reprD) (dCons (dVar 2) (dNil))) (dCB (op1 reprD) (dCons (dLst (dfCons (dVar 4) (dfCons (dVar 4) (dfNil)))) (dNil))))) (dRet (dC (.bool false))) (dSkip)) (dSeq (dIfS (dB (dVar 4)) (dSeq (dSet 2 false (dLst (dfCons (dCall fn_are_level [false, false] (dCons (dVar 0) (dCons (dVar 1) (dNil)))) (dfCons (dCallP fn_are_level [false, false] [1, 0] (dCons (dVar 1) (dCons (dVar 0) (dNil)))) (dfNil))))) (dIfS (dB (dBin neD (dCB (op1 reprD) (dCons (dVar 2) (dNil))) (dCB (op1 reprD) (dCons (dBin mulX (dLst (dfCons (dCall fn__law_are_flat [false, false] (dCons (dVar 0) (dCons (dVar 1) (dNil)))) (dfNil))) (dC (.int 2))) (dNil))))) (dRet (dC (.bool false))) (dSkip))) (dSkip)) (dRet (dBin eqD (dCB (op1 reprD) (dCons (dTup (dfCons (dVar 0) (dfCons (dVar 1) (dfNil)))) (dNil))) (dVar 3))))))
def fn__law_agrees : Fn := fnOfD 5 m__law_agrees
theorem has__law_agrees (fx : Fx w K mg) : Has P w K mg base "_law_agrees" (top 22) 4 ["_law_case_here", "_law_item"] fn__law_agrees := by
  obtain ⟨fd, F⟩ := fx.d__law_agrees
  exact has_of (N := N__law_agrees) fx.g__law_agrees F ⟨rfl, rfl, rfl, nd__law_agrees, rfl, by decide +kernel, by decide +kernel⟩ (fun _ _ _ _ _ _ us hl => match us, hl with | [_, _], _ => rfl) fun cdv A outer s H E g tk ps =>
    dss_cons (sPar (xs := ["_law_before", "_law_expected"]) g.calm nd__law_agrees (pC (bB (cr_repr g.gd g.u) fx.fr.repr boot_repr (aC (de_tup (fC (eV 0) (fC (eV 1) (df_nil)))) (da_nil))) (pC (eCall g tk (has__law_are_rates fx) (by decide) (aC (eV 0) (aC (eV 1) (da_nil))) (ln_cons (ln_cons ln_nil))) (dp_nil))) (.cons ⟨rfl, rfl⟩ (.cons ⟨rfl, rfl⟩ (.nil)))) (dss_cons (sSet 2 nd__law_agrees (de_lst (fC (eCall g tk (has_are_prices fx) (by decide) (aC (eV 0) (aC (eV 1) (da_nil))) (ln_cons (ln_cons ln_nil))) (fC (eCallKw (ks := ["thing", "history"]) g tk (has_are_prices fx) (by decide) (dk_cons (eV 1) (dk_cons (eV 0) (dk_nil))) (ln_cons (ln_cons ln_nil)) (fun _ _ _ _ _ _ ws hl => match ws, hl with | [_, _], _ => rfl) (fun l hl => match l, hl with | [_, _], _ => rfl)) (df_nil))))) (dss_cons (ds_if (tCmp (op_neDD g.u5) (bB (cr_repr g.gd g.u) fx.fr.repr boot_repr (aC (eV 2) (da_nil))) (bB (cr_repr g.gd g.u) fx.fr.repr boot_repr (aC (de_lst (fC (eV 4) (fC (eV 4) (df_nil)))) (da_nil)))) (dss_one (ds_ret (de_bl))) (dss_nil)) (dss_cons (ds_if (tVal (eV 4)) (dss_cons (sSet 2 nd__law_agrees (de_lst (fC (eCall g tk (has_are_level fx) (by decide) (aC (eV 0) (aC (eV 1) (da_nil))) (ln_cons (ln_cons ln_nil))) (fC (eCallKw (ks := ["prices", "history"]) g tk (has_are_level fx) (by decide) (dk_cons (eV 1) (dk_cons (eV 0) (dk_nil))) (ln_cons (ln_cons ln_nil)) (fun _ _ _ _ _ _ ws hl => match ws, hl with | [_, _], _ => rfl) (fun l hl => match l, hl with | [_, _], _ => rfl)) (df_nil))))) (dss_one (ds_if (tCmp (op_neDD g.u5) (bB (cr_repr g.gd g.u) fx.fr.repr boot_repr (aC (eV 2) (da_nil))) (bB (cr_repr g.gd g.u) fx.fr.repr boot_repr (aC (de_bin op_mulX' (de_lst (fC (eCall g tk (has__law_are_flat fx) (by decide) (aC (eV 0) (aC (eV 1) (da_nil))) (ln_cons (ln_cons ln_nil))) (df_nil))) (de_int)) (da_nil)))) (dss_one (ds_ret (de_bl))) (dss_nil)))) (dss_nil)) (dss_one (ds_ret (eCmp (op_eqDD g.u5) (bB (cr_repr g.gd g.u) fx.fr.repr boot_repr (aC (de_tup (fC (eV 0) (fC (eV 1) (df_nil)))) (da_nil))) (eV 3)))))))
/-! ### law -/
abbrev N_law : List Str := ["_law_script", "_law_feed_here", "_law_attempt", "_law_case_here", "_law_is_flat", "_law_rates_here", "_law_items", "_law_k", "_law_mutated_here", "_law_item"]
theorem nd_law : N_law.Nodup := by decide +kernel
def m_law : DS := dSeq (dSet 1 true (dCall fn__law_feed [false] (dCons (dVar 0) (dNil)))) (dSeq (dFor (itR rng1 (dfCons (dC (.int 4)) (dfNil))) (pName 2) (dSeq (dSet 3 false (dCall fn__law_case [true, false, false, false] (dCons (dVar 1) (dCons (dC (.int 6)) (dCons (dC (.int 10)) (dCons (dC (.int 5)) (dNil))))))) (dFor (itA (dTup (dfCons (dC (.bool true)) (dfCons (dC (.bool false)) (dfNil))))) (pName 4) (dSeq (dSet 5 false (dCall fn__law_rates [true, false, false] (dCons (dVar 1) (dCons (dVar 3) (dCons (dVar 4) (dNil)))))) (dSeq (dSet 6 false (dCall fn__law_variants [false, false] (dCons (dVar 3) (dCons (dVar 5) (dNil))))) (dSeq (dFor (itR rng1 (dfCons (dC (.int 8)) (dfNil))) (pName 7) (dSeq (dSet 8 false (dCall (fn__law_mutated 12) [true, false] (dCons (dVar 1) (dCons (dVar 5) (dNil))))) (dSet 6 false (dBin addZ (dVar 6) (dLst (dfCons (dVar 8) (dfCons (dCall (fn__law_mutated 12) [true, false] (dCons (dVar 1) (dCons (dVar 8) (dNil)))) (dfNil)))))))) (dIfS (dB (dBin neD (dLc (itA (dVar 6)) (pName 9) (dNot (dB (dCall fn__law_agrees [false, false] (dCons (dVar 3) (dCons (dVar 9) (dNil)))))) (dVar 9) [9]) (dLst (dfNil)))) (dRet (dC (.bool false))) (dSkip)))))))) (dRet (dC (.bool true))))
def fn_law : Fn := fnOfD 10 m_law
theorem has_law (fx : Fx w K mg) : Has P w K mg base "law" (top 23) 17 ["_law_script"] fn_law := by
  obtain ⟨fd, F⟩ := fx.d_law
  exact has_of (N := N_law) fx.g_law F ⟨rfl, rfl, rfl, nd_law, rfl, by decide +kernel, by decide +kernel⟩ (fun _ _ _ _ _ _ us hl => match us, hl with | [_], _ => rfl) fun cdv A outer s H E g tk ps =>
    dss_cons (sSet 1 nd_law (eCall g tk (has__law_feed fx) (by decide) (aC (eV 0) (da_nil)) (ln_cons ln_nil))) (dss_cons (sFor ps g.calm (iR1 fx.fr.range (fC (de_int) (df_nil))) (gN 2 nd_law) (dss_cons (sSet 3 nd_law (eCall g tk (has__law_case fx) (by decide) (aC (eV 1) (aC (de_int) (aC (de_int) (aC (de_int) (da_nil))))) (ln_cons (ln_cons (ln_cons (ln_cons ln_nil)))))) (dss_one (sFor ps g.calm (di_any (de_tup (fC (de_bl) (fC (de_bl) (df_nil))))) (gN 4 nd_law) (dss_cons (sSet 5 nd_law (eCall g tk (has__law_rates fx) (by decide) (aC (eV 1) (aC (eV 3) (aC (eV 4) (da_nil)))) (ln_cons (ln_cons (ln_cons ln_nil))))) (dss_cons (sSet 6 nd_law (eCall g tk (has__law_variants fx) (by decide) (aC (eV 3) (aC (eV 5) (da_nil))) (ln_cons (ln_cons ln_nil)))) (dss_cons (sFor ps g.calm (iR1 fx.fr.range (fC (de_int) (df_nil))) (gN 7 nd_law) (dss_cons (sSet 8 nd_law (eCall g tk (has__law_mutated fx 12) (by decide) (aC (eV 1) (aC (eV 5) (da_nil))) (ln_cons (ln_cons ln_nil)))) (dss_one (sSet 6 nd_law (de_bin op_addZ (eV 6) (de_lst (fC (eV 8) (fC (eCall g tk (has__law_mutated fx 12) (by decide) (aC (eV 1) (aC (eV 8) (da_nil))) (ln_cons (ln_cons ln_nil))) (df_nil))))))))) (dss_one (ds_if (tCmp (op_neDD g.u5) (eLc (own := [("_law_item", 9)]) g.calm nd_law (by first | rfl | kernel_rfl) (di_any (eV 6)) (fun _ _ _ _ _ => ⟨gN 9 nd_law, ts1 (dt_not (tVal (eCall g.blk takes0 (has__law_agrees fx) (by decide) (aC (eV 3) (aC (eV 9) (da_nil))) (ln_cons (ln_cons ln_nil))))), eV 9⟩)) (de_lst (df_nil))) (dss_one (ds_ret (de_bl))) (dss_nil)))))))))) (dss_one (ds_ret (de_bl))))
end
end Lw
namespace Lw
open PySem PySem.Spec PyProof.Rows L2 Dn
/-! ### the drawing -/
structure Rd where
  cells : List Int
  at_ : Int
  big : Int
  turn : Int
def Rd.o (s : Rd) : Ob := .lst [.list (s.cells.map .int), .int s.at_, .int s.big, .int s.turn]
structure Rd.V (s : Rd) (B : Int) : Prop where
  a : 0 ≤ s.at_
  b : 0 ≤ s.big
  t : 0 ≤ s.turn
  u : s.turn ≤ B
abbrev EF := Str → List PyData → List Ob → Prop
theorem Rd.V.up {s : Rd} {B C : Int} (h : s.V B) (hb : B ≤ C) : s.V C := ⟨h.a, h.b, h.t, Int.le_trans h.u hb⟩
theorem fm {a n : Int} (h : 0 < n) : 0 ≤ a.fmod n ∧ a.fmod n < n := by
  rw [Int.fmod_eq_emod_of_nonneg _ (by omega)]
  exact ⟨Int.emod_nonneg _ (by omega), Int.emod_lt_of_pos _ h⟩
theorem fd {a n : Int} (h : 0 < n) (ha : 0 ≤ a) : 0 ≤ a.fdiv n := by
  rw [Int.fdiv_eq_ediv_of_nonneg _ (by omega)]
  exact Int.ediv_nonneg ha (by omega)
theorem cdiv {a n : Int} (h : 0 < n) (h1 : n < 1073741824) : CDivN a n := ⟨by omega, by omega⟩
theorem sizeBig : 1000000 ≤ sizeLine := by rw [sizeLine_eq]; decide
theorem b62 {j : Int} (h0 : -1000000 < j) (h1 : j < 1000000) : big62 j = true := by
  unfold big62
  rw [Bool.and_eq_true]
  exact ⟨decide_eq_true (by omega), decide_eq_true (by omega)⟩
theorem mul_le {a b A B : Int} (a0 : 0 ≤ a) (a1 : a ≤ A) (b0 : 0 ≤ b) (b1 : b ≤ B) : 0 ≤ a * b ∧ a * b ≤ A * B :=
  ⟨Int.mul_nonneg a0 b0, Int.le_trans (Int.mul_le_mul_of_nonneg_right a1 b0) (Int.mul_le_mul_of_nonneg_left b1 (Int.le_trans a0 a1))⟩
theorem draw_ok {s : Rd} {B n : Int} {Q : DV → List Ob → Prop} {E : EF} (h0 : 0 < n) (h1 : n < 1000000) (hv : s.V B) (hB : B < 1000000) (k : ∀ (v : Int) (s' : Rd), 0 ≤ v → v < n → s'.V (B + 1) → Q (.dat (.int v)) [s'.o]) : wF fn__law_draw [.own false s.o, .dat (.int n)] Q E := by
  obtain ⟨cells, at_, big, turn⟩ := s
  obtain ⟨va, vb, vt, vu⟩ := hv
  dsimp only at va vb vt vu
  unfold fn__law_draw Rd.o
  rw [wF_of]; simp only [entry, List.map_cons, List.map_nil, List.length_cons, List.length_nil, Nat.reduceAdd, Nat.reduceSub, List.replicate_succ, List.replicate_zero, List.cons_append, List.nil_append]
  unfold m__law_draw
  ((try simp only [wS_seq, seqQ_nx, seqQ_rt, seqQ_bk, seqQ_ct, seqQ_exc]); try simp_arith)
  ((try simp only [wS_seq, seqQ_nx, seqQ_rt, seqQ_bk, seqQ_ct, seqQ_exc]); try simp_arith)
  split
  · ((try simp only [wS_seq, seqQ_nx, seqQ_rt, seqQ_bk, seqQ_ct, seqQ_exc]); try simp_arith)
    refine ⟨by omega, ?_⟩
    ((try simp only [wS_seq, seqQ_nx, seqQ_rt, seqQ_bk, seqQ_ct, seqQ_exc]); try simp_arith)
    refine ⟨cdiv h0 (by omega), ?_⟩
    ((try simp only [wS_seq, seqQ_nx, seqQ_rt, seqQ_bk, seqQ_ct, seqQ_exc]); try simp_arith)
    exact k _ ⟨cells, at_, big.fdiv n, turn + 1⟩ (fm h0).1 (fm h0).2 ⟨va, fd h0 vb, by dsimp only; omega, by dsimp only; omega⟩
  · ((try simp only [wS_seq, seqQ_nx, seqQ_rt, seqQ_bk, seqQ_ct, seqQ_exc]); try simp_arith)
    refine ⟨⟨(shp_ints (n := 0) cells).ok, by decide⟩, ?_⟩
    rw [eqv_nil]
    have hcell : cells ≠ [] → ∃ c : Int, atI (cells.map PyData.int) (at_.fmod (cells.length : Int)) = some (.int c) := fun hne => by
      have hp : 0 < (cells.length : Int) := by
        have := List.length_pos_iff.mpr hne
        omega
      obtain ⟨z0, z1⟩ := fm (a := at_) hp
      rw [atI_of z0, List.getElem?_map]
      have hl : (at_.fmod (cells.length : Int)).toNat < cells.length := by omega
      exact ⟨cells[(at_.fmod (cells.length : Int)).toNat], by rw [List.getElem?_eq_getElem hl]; rfl⟩
    have cp : CPow 10 18 := by decide
    have pw : ∀ a : Int, 0 ≤ a → a < 10000000000000000000 → CPow a 5 := fun a z1 z2 => ⟨by decide, by decide, by omega⟩
    have pw3 : ∀ a : Int, 0 ≤ a → a < 10000000000000000000 → CPow a 3 := fun a z1 z2 => ⟨by decide, by decide, by omega⟩
    have tt := mul_le (a := 131 * (turn + 1)) (b := turn + 1 + 5) (A := 131000000) (B := 1000006) (by omega) (by omega) (by omega) (by omega)
    split
    · rename_i hne
      have hne : cells ≠ [] := by
        intro z
        rw [z] at hne
        cases hne
      obtain ⟨c, hc⟩ := hcell hne
      refine ⟨by have := List.length_pos_iff.mpr hne; omega, ?_⟩
      rw [hc, optQ_some]
      clear hc hcell
      ((try simp only [wS_seq, seqQ_nx, seqQ_rt, seqQ_bk, seqQ_ct, seqQ_exc]); try simp_arith)
      ((try simp only [wS_seq, seqQ_nx, seqQ_rt, seqQ_bk, seqQ_ct, seqQ_exc]); try simp_arith)
      refine ⟨cp, ?_⟩
      split
      · split
        · rename_i hc _
          have hc : (10 : Int) ^ (18 : Int).toNat ≤ c := of_decide_eq_true hc
          ((try simp only [wS_seq, seqQ_nx, seqQ_rt, seqQ_bk, seqQ_ct, seqQ_exc]); try simp_arith)
          refine ⟨cdiv h0 (by omega), ?_⟩
          ((try simp only [wS_seq, seqQ_nx, seqQ_rt, seqQ_bk, seqQ_ct, seqQ_exc]); try simp_arith)
          refine ⟨by omega, ?_⟩
          exact k _ ⟨cells, at_ + 1, (c).fdiv n, turn + 1⟩ (fm h0).1 (fm h0).2 ⟨by dsimp only; omega, fd h0 (Int.le_trans (by decide) hc), by dsimp only; omega, by dsimp only; omega⟩
        · ((try simp only [wS_seq, seqQ_nx, seqQ_rt, seqQ_bk, seqQ_ct, seqQ_exc]); try simp_arith)
          refine ⟨.inl ⟨by decide, by decide⟩, .inl ⟨by omega, by omega⟩, pw _ (by have := fm (a := c) (n := 1000004803) (by decide); omega) (by have := fm (a := c) (n := 1000004803) (by decide); omega), ?_⟩
          generalize hm : ((c.fmod 1000004803 + 131 * (turn + 1) * (turn + 1 + 5) + 17) ^ 5).fmod 2147483249 = m
          have hm0 : 0 ≤ m ∧ m < 2147483249 := by rw [← hm]; exact fm (by decide)
          have mt := mul_le (a := m) (b := 2 * (turn + 1) + 3) (A := 2147483249) (B := 2000003) (by omega) (by omega) (by omega) (by omega)
          ((try simp only [wS_seq, seqQ_nx, seqQ_rt, seqQ_bk, seqQ_ct, seqQ_exc]); try simp_arith)
          refine ⟨.inl ⟨by decide, by decide⟩, .inl ⟨by omega, by omega⟩, .inl ⟨by decide, by decide⟩, pw3 _ (by omega) (by omega), cdiv (by decide) (by decide), by omega, ?_⟩
          exact k _ ⟨cells, at_ + 1, big, turn + 1⟩ (fm h0).1 (fm h0).2 ⟨by dsimp only; omega, vb, by dsimp only; omega, by dsimp only; omega⟩
      · ((try simp only [wS_seq, seqQ_nx, seqQ_rt, seqQ_bk, seqQ_ct, seqQ_exc]); try simp_arith)
        refine ⟨.inl ⟨by decide, by decide⟩, .inl ⟨by omega, by omega⟩, pw _ (by have := fm (a := c) (n := 1000004803) (by decide); omega) (by have := fm (a := c) (n := 1000004803) (by decide); omega), ?_⟩
        generalize hm : ((c.fmod 1000004803 + 131 * (turn + 1) * (turn + 1 + 5) + 17) ^ 5).fmod 2147483249 = m
        have hm0 : 0 ≤ m ∧ m < 2147483249 := by rw [← hm]; exact fm (by decide)
        have mt := mul_le (a := m) (b := 2 * (turn + 1) + 3) (A := 2147483249) (B := 2000003) (by omega) (by omega) (by omega) (by omega)
        ((try simp only [wS_seq, seqQ_nx, seqQ_rt, seqQ_bk, seqQ_ct, seqQ_exc]); try simp_arith)
        refine ⟨.inl ⟨by decide, by decide⟩, .inl ⟨by omega, by omega⟩, .inl ⟨by decide, by decide⟩, pw3 _ (by omega) (by omega), cdiv (by decide) (by decide), by omega, ?_⟩
        exact k _ ⟨cells, at_ + 1, big, turn + 1⟩ (fm h0).1 (fm h0).2 ⟨by dsimp only; omega, vb, by dsimp only; omega, by dsimp only; omega⟩
    · ((try simp only [wS_seq, seqQ_nx, seqQ_rt, seqQ_bk, seqQ_ct, seqQ_exc]); try simp_arith)
      ((try simp only [wS_seq, seqQ_nx, seqQ_rt, seqQ_bk, seqQ_ct, seqQ_exc]); try simp_arith)
      refine ⟨cp, ?_⟩
      split
      · rename_i hc
        exact absurd (of_decide_eq_true hc) (by decide)
      · ((try simp only [wS_seq, seqQ_nx, seqQ_rt, seqQ_bk, seqQ_ct, seqQ_exc]); try simp_arith)
        refine ⟨.inl ⟨by decide, by decide⟩, .inl ⟨by omega, by omega⟩, pw _ (by have := fm (a := (29 : Int)) (n := 1000004803) (by decide); omega) (by have := fm (a := (29 : Int)) (n := 1000004803) (by decide); omega), ?_⟩
        generalize hm : ((29 + 131 * (turn + 1) * (turn + 1 + 5) + 17) ^ 5).fmod 2147483249 = m
        have hm0 : 0 ≤ m ∧ m < 2147483249 := by rw [← hm]; exact fm (by decide)
        have mt := mul_le (a := m) (b := 2 * (turn + 1) + 3) (A := 2147483249) (B := 2000003) (by omega) (by omega) (by omega) (by omega)
        ((try simp only [wS_seq, seqQ_nx, seqQ_rt, seqQ_bk, seqQ_ct, seqQ_exc]); try simp_arith)
        refine ⟨.inl ⟨by decide, by decide⟩, .inl ⟨by omega, by omega⟩, .inl ⟨by decide, by decide⟩, pw3 _ (by omega) (by omega), cdiv (by decide) (by decide), by omega, ?_⟩
        exact k _ ⟨cells, at_ + 1, big, turn + 1⟩ (fm h0).1 (fm h0).2 ⟨by dsimp only; omega, vb, by dsimp only; omega, by dsimp only; omega⟩
end Lw
namespace Lw
open PySem PySem.Spec PyProof.Rows L2 Dn
/-! ### events, histories -/
inductive Ev where
  | mix (w : Str) (ps : List Str)
  | new (p : Str) (m : Option Int)
  | look (w p : Str) (m : Int)
  | pour (w : Str) (ps : List Str) (c : Int)
def mkD : Option Int → PyData
  | none => .none
  | some i => .int i
def Ev.d : Ev → PyData
  | .mix w ps => .tuple [.str "mix", .str w, .tuple (ps.map .str)]
  | .new p m => .tuple [.str "new", .str p, mkD m]
  | .look w p m => .tuple [.str "look", .str w, .str p, .int m]
  | .pour w ps c => .tuple [.str "pour", .str w, .tuple (ps.map .str), .int c]
structure Ok (x : Str) : Prop where
  o : PyData.strOk x = true
  l : x.cps.size ≤ 10
def MkV (m : Option Int) : Prop := m = none ∨ m = some 0 ∨ m = some 1
structure Oks (ps : List Str) : Prop where
  o : ∀ p, p ∈ ps → Ok p
  l : ps.length ≤ 14
def Ev.V : Ev → Prop
  | .mix w ps => Ok w ∧ Oks ps ∧ 2 ≤ ps.length
  | .new p m => Ok p ∧ MkV m
  | .look w p m => Ok w ∧ Ok p ∧ 0 ≤ m ∧ m < 2
  | .pour w ps c => Ok w ∧ Oks ps ∧ 1 ≤ ps.length ∧ 0 ≤ c ∧ c < 100
theorem Ok.fine {x : Str} (h : Ok x) {n : Nat} : Fine n 10 (.str x) := fine_str h.o h.l
theorem Oks.fine {ps : List Str} (h : Oks ps) : Fine 1 154 (.tuple (ps.map .str)) := fine_tup (fineL_map (k := 14) (w := 10) (fun x hx => (h.o x hx).fine) h.l)
theorem sml {n : Nat} {i : Int} (h0 : 0 ≤ i) (h1 : i < 100) : Fine n 10 (.int i) := fine_int 10 (by omega)
theorem MkV.fine {m : Option Int} (h : MkV m) {n : Nat} : Fine n 10 (mkD m) := by
  rcases h with rfl | rfl | rfl
  · exact fine_none
  · exact sml (by decide) (by decide)
  · exact sml (by decide) (by decide)
theorem lit {n : Nat} (x : Str) (h : (PyData.strOk x && decide (x.cps.size ≤ 10)) = true := by decide +kernel) : Fine n 10 (.str x) := by
  obtain ⟨h1, h2⟩ := Bool.and_eq_true_iff.mp h
  exact fine_str h1 (of_decide_eq_true h2)
theorem litOk (x : Str) (h : (PyData.strOk x && decide (x.cps.size ≤ 10)) = true := by decide +kernel) : Ok x := by
  obtain ⟨h1, h2⟩ := Bool.and_eq_true_iff.mp h
  exact ⟨h1, of_decide_eq_true h2⟩
theorem Ev.V.fine {e : Ev} (h : e.V) : Fine 2 300 e.d := by
  cases e with
  | mix w ps => exact (fine_tup (fineL_cons (lit "mix") (fineL_cons h.1.fine (fineL_cons h.2.1.fine (fineL_nil (w := 0)))))).up
  | new p m => exact (fine_tup (fineL_cons (lit "new") (fineL_cons h.1.fine (fineL_cons h.2.fine (fineL_nil (w := 0) (n := 1)))))).up
  | look w p m => exact (fine_tup (fineL_cons (lit "look") (fineL_cons h.1.fine (fineL_cons h.2.1.fine (fineL_cons (sml h.2.2.1 (by have := h.2.2.2; omega)) (fineL_nil (w := 0) (n := 1))))))).up
  | pour w ps c => exact (fine_tup (fineL_cons (lit "pour") (fineL_cons h.1.fine (fineL_cons h.2.1.fine (fineL_cons (sml h.2.2.2.1 h.2.2.2.2) (fineL_nil (w := 0))))))).up
def stD (p : Str × Option Int) : PyData := .tuple [.str p.1, mkD p.2]
structure Hist where
  start : List (Str × Option Int)
  events : List Ev
def Hist.d (h : Hist) : PyData := .tuple [.tuple (h.start.map stD), .tuple (h.events.map Ev.d)]
structure Hist.V (h : Hist) : Prop where
  s : ∀ p, p ∈ h.start → Ok p.1 ∧ MkV p.2
  sl : h.start.length ≤ 7
  e : ∀ e, e ∈ h.events → e.V
  el : h.events.length ≤ 14
theorem Hist.V.fine {h : Hist} (v : h.V) : Fine 4 5000 h.d := by
  have f1 : Fine 2 300 (.tuple (h.start.map stD)) := (fine_tup (fineL_map (k := 7) (w := 22) (fun p hp => fine_tup (fineL_cons (v.s p hp).1.fine (fineL_cons (v.s p hp).2.fine (fineL_nil (w := 0) (n := 0))))) v.sl)).up
  have f2 : Fine 3 4214 (.tuple (h.events.map Ev.d)) := fine_tup (fineL_map (k := 14) (w := 300) (fun e he => (v.e e he).fine) v.el)
  exact (fine_tup (fineL_cons (f1.up (m := 3) (v := 300)) (fineL_cons f2 (fineL_nil (w := 0))))).up
/-! ### the start -/
def pool6 : List Str := ["a", "bb", "longname", "m", "n", "z"]
theorem pool6_ok : ∀ x, x ∈ pool6 → Ok x := by
  have h : ∀ x, x ∈ pool6 → (PyData.strOk x && decide (x.cps.size ≤ 10)) = true := by decide +kernel
  exact fun x hx => litOk x (h x hx)
theorem pool6_nd : pool6.Nodup := by decide +kernel
structure Nm (nm : List Str) : Prop where
  ok : ∀ x, x ∈ nm → Ok x
  nd : nm.Nodup
  l0 : 0 < nm.length
  l1 : nm.length ≤ 6
theorem feed_ok {ns : List Int} {Q : DV → List Ob → Prop} {E : EF} (k : ∀ s : Rd, s.V 0 → Q (.own s.o) []) : wF fn__law_feed [.scr ns] Q E := by
  unfold fn__law_feed
  rw [wF_of]; simp only [entry, List.map_cons, List.map_nil, List.length_cons, List.length_nil, Nat.reduceAdd, Nat.reduceSub, List.replicate_succ, List.replicate_zero, List.cons_append, List.nil_append]
  unfold m__law_feed
  ((try simp only [wS_seq, seqQ_nx, seqQ_rt, seqQ_bk, seqQ_ct, seqQ_exc]); try simp_arith)
  have e : cutL (ns.map PyData.int) none (some 63) = (ns.take 63).map .int := by
    rw [cut_take (by decide), List.map_take]
    rfl
  rw [e]
  exact k ⟨ns.take 63, 0, 0, 0⟩ ⟨Int.le_refl _, Int.le_refl _, Int.le_refl _, Int.le_refl _⟩
theorem MkV.of {m : Int} (h : m = 0 ∨ m = 1) : MkV (some m) := by
  rcases h with rfl | rfl
  · exact .inr (.inl rfl)
  · exact .inr (.inr rfl)
theorem mk01 {v : Int} (h0 : 0 ≤ v) (h1 : v < 2) : v = 0 ∨ v = 1 := by omega
theorem start_ok {s : Rd} {B : Int} {Q : DV → List Ob → Prop} {E : EF} (hv : s.V B) (hB : B < 900000)
    (k : ∀ (st : List (Str × Option Int)) (nm : List Str) (kvs : List (PyData × PyData)) (s' : Rd), Nm nm → st.map (·.1) = nm → (∀ p, p ∈ st → MkV p.2) → DN nm kvs → s'.V (B + 20) → Q (.pr (.tuple (st.map stD)) (.dic kvs)) [s'.o]) : wF fn__law_start [.own false s.o, .dat (.int 6)] Q E := by
  unfold fn__law_start
  rw [wF_of]; simp only [entry, List.map_cons, List.map_nil, List.length_cons, List.length_nil, Nat.reduceAdd, Nat.reduceSub, List.replicate_succ, List.replicate_zero, List.cons_append, List.nil_append]
  unfold m__law_start
  have hsz := sizeBig
  ((try simp only [wS_seq, seqQ_nx, seqQ_rt, seqQ_bk, seqQ_ct, seqQ_exc]); try simp_arith)
  refine draw_ok (s := s) (B := B) (by decide) (by decide) hv (by omega) fun v s1 v0 v1 hv1 => ?_
  ((try simp only [wS_seq, seqQ_nx, seqQ_rt, seqQ_bk, seqQ_ct, seqQ_exc]); try simp_arith)
  have ep : [PyData.str "a", PyData.str "bb", PyData.str "longname", PyData.str "m", PyData.str "n", PyData.str "z"] = pool6.map .str := rfl
  rw [ep, cut_take (by omega), ← List.map_take]
  have l6 : pool6.length = 6 := rfl
  have hnl : (pool6.take (1 + v).toNat).length = (1 + v).toNat := by rw [List.length_take, l6]; omega
  have hnm : Nm (pool6.take (1 + v).toNat) := ⟨fun x hx => pool6_ok x (List.mem_of_mem_take hx), pool6_nd.sublist (List.take_sublist _ _), by omega, by omega⟩
  generalize pool6.take (1 + v).toNat = nm at hnl hnm
  have n0 := hnm.l0
  have n1 := hnm.l1
  ((try simp only [wS_seq, seqQ_nx, seqQ_rt, seqQ_bk, seqQ_ct, seqQ_exc]); try simp_arith)
  refine ⟨by omega, ?_⟩
  refine lc_for (fun pre acc r => ∃ (s' : Rd) (tr : List Int), r = [some (.own false s'.o), some (.dat (.int 6)), some (.dat (.list (nm.map .str))), none, none, none, none] ∧ s'.V (B + 1 + pre.length) ∧ acc = tr.map .int ∧ tr.length = pre.length ∧ ∀ t, t ∈ tr → t = 0 ∨ t = 1) nm
    ⟨s1, [], rfl, hv1.up (by simp), rfl, rfl, fun x h => absurd h List.not_mem_nil⟩ ?_ ?_
  · rintro ys r ⟨s2, tr, rfl, hv2, rfl, t1, t2⟩
    ((try simp only [wS_seq, seqQ_nx, seqQ_rt, seqQ_bk, seqQ_ct, seqQ_exc]); try simp_arith)
    ((try simp only [wS_seq, seqQ_nx, seqQ_rt, seqQ_bk, seqQ_ct, seqQ_exc]); try simp_arith)
    rw [enumL_map]
    refine ⟨by rw [List.length_map, en_len]; omega, ?_⟩
    refine lc_for (fun pre acc r => ∃ (s' : Rd) (st : List (Str × Option Int)), r = [some (.own false s'.o), some (.dat (.int 6)), some (.dat (.list (nm.map .str))), some (.dat (.list (tr.map .int))), none, none, none] ∧ s'.V (B + 1 + nm.length + pre.length) ∧ acc = st.map stD ∧ st.map (·.1) = pre.map (·.2) ∧ ∀ p, p ∈ st → MkV p.2) (en 0 nm)
      ⟨s2, [], rfl, hv2.up (by simp), rfl, rfl, fun x h => absurd h List.not_mem_nil⟩ ?_ ?_
    · rintro ys r ⟨s3, st, rfl, hv3, rfl, u1, u2⟩
      ((try simp only [wS_seq, seqQ_nx, seqQ_rt, seqQ_bk, seqQ_ct, seqQ_exc]); try simp_arith)
      ((try simp only [wS_seq, seqQ_nx, seqQ_rt, seqQ_bk, seqQ_ct, seqQ_exc]); try simp_arith)
      rw [enumL_map]
      refine ⟨by rw [List.length_map, en_len]; omega, ?_⟩
      have enm : (en 0 nm).map (·.2) = nm := en_snd nm 0
      have el : (en 0 nm).length = nm.length := en_len nm 0
      refine lc_for (fun pre acc r => ∃ (l : List (Str × Int)), r = [some (.own false s3.o), some (.dat (.int 6)), some (.dat (.list (nm.map .str))), some (.dat (.list (tr.map .int))), some (.dat (.list (st.map stD))), none, none] ∧ acc = l.map (fun a => PyData.tuple [.str a.1, .int a.2]) ∧ l.map (·.1) = pre.map (·.2) ∧ ∀ a, a ∈ l → a.2 = 0 ∨ a.2 = 1) (en 0 nm)
        ⟨[], rfl, rfl, rfl, fun x h => absurd h List.not_mem_nil⟩ ?_ ?_
      · rintro ys r ⟨l, rfl, rfl, w1, w2⟩
        rw [enm] at w1 u1
        obtain ⟨m1, m2⟩ := DN.make l w1 hnm.nd w2
        ((try simp only [wS_seq, seqQ_nx, seqQ_rt, seqQ_bk, seqQ_ct, seqQ_exc]); try simp_arith)
        rw [m1]
        ((try simp only [wS_seq, seqQ_nx, seqQ_rt, seqQ_bk, seqQ_ct, seqQ_exc]); try simp_arith)
        exact k st nm _ s3 hnm u1 u2 m2 (hv3.up (by omega))
      · rintro pre ⟨kk, x⟩ post acc r hpre ⟨l, rfl, rfl, w1, w2⟩
        obtain ⟨z1, z2⟩ := en_at nm 0 pre post (kk, x) hpre
        have hpl : pre.length < nm.length := by rw [← el, hpre]; simp
        have hk : kk < tr.length := by rw [t1]; dsimp only at z1; omega
        ((try simp only [wS_seq, seqQ_nx, seqQ_rt, seqQ_bk, seqQ_ct, seqQ_exc]); try simp_arith)
        rw [List.getElem?_map, List.getElem?_eq_getElem hk]
        ((try simp only [wS_seq, seqQ_nx, seqQ_rt, seqQ_bk, seqQ_ct, seqQ_exc]); try simp_arith)
        show optQ (some (PyData.int tr[kk])) _
        ((try simp only [wS_seq, seqQ_nx, seqQ_rt, seqQ_bk, seqQ_ct, seqQ_exc]); try simp_arith)
        refine ⟨l ++ [(x, tr[kk])], by rw [List.map_append]; rfl, by rw [List.map_append, List.map_append, w1]; rfl, fun a ha => ?_⟩
        rcases List.mem_append.mp ha with h | h
        · exact w2 a h
        · rw [List.mem_singleton.mp h]; exact t2 _ (List.getElem_mem _)
    · rintro pre ⟨kk, x⟩ post acc r hpre ⟨s3, st, rfl, hv3, rfl, u1, u2⟩
      obtain ⟨z1, z2⟩ := en_at nm 0 pre post (kk, x) hpre
      have hpl : pre.length < nm.length := by rw [← en_len nm 0, hpre]; simp
      have hk : kk < tr.length := by rw [t1]; dsimp only at z1; omega
      ((try simp only [wS_seq, seqQ_nx, seqQ_rt, seqQ_bk, seqQ_ct, seqQ_exc]); try simp_arith)
      refine draw_ok (s := s3) (B := B + 1 + nm.length + pre.length) (by decide) (by decide) hv3 (by omega) fun v2 s4 b0 b1 hv4 => ?_
      ((try simp only [wS_seq, seqQ_nx, seqQ_rt, seqQ_bk, seqQ_ct, seqQ_exc]); try simp_arith)
      rw [List.getElem?_map, List.getElem?_eq_getElem hk]
      split
      · show optQ (some (PyData.int tr[kk])) _
        ((try simp only [wS_seq, seqQ_nx, seqQ_rt, seqQ_bk, seqQ_ct, seqQ_exc]); try simp_arith)
        have ht := t2 tr[kk] (List.getElem_mem _)
        refine ⟨s4, st ++ [(x, some tr[kk])], rfl, hv4.up (by simp; omega), by rw [List.map_append]; rfl, by rw [List.map_append, List.map_append, u1]; rfl, fun a ha => ?_⟩
        rcases List.mem_append.mp ha with h | h
        · exact u2 a h
        · rw [List.mem_singleton.mp h]; exact MkV.of ht
      · ((try simp only [wS_seq, seqQ_nx, seqQ_rt, seqQ_bk, seqQ_ct, seqQ_exc]); try simp_arith)
        refine ⟨s4, st ++ [(x, none)], rfl, hv4.up (by simp; omega), by rw [List.map_append]; rfl, by rw [List.map_append, List.map_append, u1]; rfl, fun a ha => ?_⟩
        rcases List.mem_append.mp ha with h | h
        · exact u2 a h
        · rw [List.mem_singleton.mp h]; exact .inl rfl
  · rintro pre x post acc r hpre ⟨s2, tr, rfl, hv2, rfl, t1, t2⟩
    have hpl : pre.length < nm.length := by rw [hpre]; simp
    ((try simp only [wS_seq, seqQ_nx, seqQ_rt, seqQ_bk, seqQ_ct, seqQ_exc]); try simp_arith)
    refine draw_ok (s := s2) (B := B + 1 + pre.length) (by decide) (by decide) hv2 (by omega) fun v2 s3 b0 b1 hv3 => ?_
    ((try simp only [wS_seq, seqQ_nx, seqQ_rt, seqQ_bk, seqQ_ct, seqQ_exc]); try simp_arith)
    refine ⟨s3, tr ++ [v2], rfl, hv3.up (by simp; omega), by rw [List.map_append]; rfl, by rw [List.length_append, List.length_append, t1]; rfl, fun t ht => ?_⟩
    rcases List.mem_append.mp ht with h | h
    · exact t2 t h
    · rw [List.mem_singleton.mp h]; exact mk01 b0 b1
end Lw
namespace Lw
open PySem PySem.Spec PyProof.Rows L2 Dn
theorem sum01 : ∀ {l : List Int}, (∀ x, x ∈ l → x = 0 ∨ x = 1) → 0 ≤ l.sum ∧ l.sum ≤ l.length
  | [], _ => ⟨Int.le_refl _, Int.le_refl _⟩
  | a :: l, h => by
    have h1 := sum01 fun x hx => h x (List.mem_cons_of_mem a hx)
    have h2 := h a List.mem_cons_self
    rw [List.sum_cons, List.length_cons]
    omega
theorem asInts_map : ∀ l : List Int, asInts (l.map PyData.int) = some l
  | [] => rfl
  | a :: l => by
    show (asInts (l.map PyData.int)).map _ = _
    rw [asInts_map l]
    rfl
theorem sumD_map (l : List Int) : sumD (.list (l.map .int)) = some (.dat (.int l.sum)) := by
  unfold sumD
  dsimp only
  rw [asInts_map]
theorem choice_ok {s : Rd} {B : Int} {xs : List PyData} {Q : DV → List Ob → Prop} {E : EF} (h0 : 0 < xs.length) (h1 : xs.length < 1000) (hv : s.V B) (hB : B < 990000)
    (k : ∀ (x : PyData) (s' : Rd), x ∈ xs → s'.V (B + 1) → Q (.dat x) [s'.o]) : wF fn__law_choice [.own false s.o, .dat (.list xs)] Q E := by
  unfold fn__law_choice
  rw [wF_of]; simp only [entry, List.map_cons, List.map_nil, List.length_cons, List.length_nil, Nat.reduceAdd, Nat.reduceSub, List.replicate_succ, List.replicate_zero, List.cons_append, List.nil_append]
  unfold m__law_choice
  ((try simp only [wS_seq, seqQ_nx, seqQ_rt, seqQ_bk, seqQ_ct, seqQ_exc]); try simp_arith)
  refine draw_ok (s := s) (B := B) (by omega) (by omega) hv (by omega) fun v s1 v0 v1 hv1 => ?_
  ((try simp only [wS_seq, seqQ_nx, seqQ_rt, seqQ_bk, seqQ_ct, seqQ_exc]); try simp_arith)
  obtain ⟨x, hx, e⟩ := at_list v0 v1
  rw [e]
  ((try simp only [wS_seq, seqQ_nx, seqQ_rt, seqQ_bk, seqQ_ct, seqQ_exc]); try simp_arith)
  exact k x s1 hx hv1
theorem places_ok {s : Rd} {B f : Int} {nm : List Str} {Q : DV → List Ob → Prop} {E : EF} (hn : Nm nm) (f0 : 0 ≤ f) (f1 : f ≤ nm.length) (hv : s.V B) (hB : B < 900000)
    (k : ∀ (ys : List Str) (s' : Rd), (∀ y, y ∈ ys → y ∈ nm) → f ≤ ys.length → ys.length ≤ 6 → s'.V (B + 20) → Q (.dat (.tuple (ys.map .str))) [s'.o]) : wF fn__law_some_places [.own false s.o, .dat (.list (nm.map .str)), .dat (.int f)] Q E := by
  unfold fn__law_some_places
  rw [wF_of]; simp only [entry, List.map_cons, List.map_nil, List.length_cons, List.length_nil, Nat.reduceAdd, Nat.reduceSub, List.replicate_succ, List.replicate_zero, List.cons_append, List.nil_append]
  unfold m__law_some_places
  have hsz := sizeBig
  have n0 := hn.l0
  have n1 := hn.l1
  ((try simp only [wS_seq, seqQ_nx, seqQ_rt, seqQ_bk, seqQ_ct, seqQ_exc]); try simp_arith)
  ((try simp only [wS_seq, seqQ_nx, seqQ_rt, seqQ_bk, seqQ_ct, seqQ_exc]); try simp_arith)
  refine draw_ok (s := s) (B := B) (by omega) (by omega) hv (by omega) fun v s1 v0 v1 hv1 => ?_
  ((try simp only [wS_seq, seqQ_nx, seqQ_rt, seqQ_bk, seqQ_ct, seqQ_exc]); try simp_arith)
  refine ⟨b62 (by omega) (by omega), ?_⟩
  refine for_map (g := fun i : Nat => PyData.int (0 + (i : Int))) (fun pre r => ∃ (s' : Rd) (pl fl : List Str) (z : Option Sl), r = [some (.own false s'.o), some (.dat (.list (nm.map .str))), some (.dat (.int f)), z, some (.own true (.lst (pl.map .str))), some (.own true (.lst (fl.map .str)))] ∧ s'.V (B + 1 + pre.length) ∧ fl.length = pre.length ∧ pl.length + pre.length = nm.length ∧ (∀ y, y ∈ pl → y ∈ nm) ∧ ∀ y, y ∈ fl → y ∈ nm) (List.range (f + v).toNat)
    ⟨s1, nm, [], _, rfl, hv1.up (by simp), rfl, by simp, fun y h => h, fun y h => absurd h List.not_mem_nil⟩ ?_ ?_
  · rintro r ⟨s2, pl, fl, z, rfl, hv2, l1, l2, m1, m2⟩
    rw [List.length_range] at l1 l2 hv2
    ((try simp only [wS_seq, seqQ_nx, seqQ_rt, seqQ_bk, seqQ_ct, seqQ_exc]); try simp_arith)
    refine ⟨sortOk_strs _, ?_⟩
    obtain ⟨ys, e5, e6⟩ := sorted_strs fl
    rw [e5]
    refine k ys s2 (fun y hy => m2 y (e6.mem_iff.mp hy)) (by rw [e6.length_eq]; omega) (by rw [e6.length_eq]; omega) (hv2.up (by omega))
  · rintro pre x post r hpre ⟨s2, pl, fl, z, rfl, hv2, l1, l2, m1, m2⟩
    have hpl : pre.length < (f + v).toNat := by
      have z := congrArg List.length hpre
      rw [List.length_range, List.length_append, List.length_cons] at z
      omega
    ((try simp only [wS_seq, seqQ_nx, seqQ_rt, seqQ_bk, seqQ_ct, seqQ_exc]); try simp_arith)
    refine draw_ok (s := s2) (B := B + 1 + pre.length) (by omega) (by omega) hv2 (by omega) fun v2 s3 b0 b1 hv3 => ?_
    ((try simp only [wS_seq, seqQ_nx, seqQ_rt, seqQ_bk, seqQ_ct, seqQ_exc]); try simp_arith)
    rw [ixN_of b0 b1]
    ((try simp only [wS_seq, seqQ_nx, seqQ_rt, seqQ_bk, seqQ_ct, seqQ_exc]); try simp_arith)
    have hl : v2.toNat < pl.length := by omega
    rw [List.getElem?_map, List.getElem?_eq_getElem hl]
    show optQ (some (PyData.str pl[v2.toNat])) _
    ((try simp only [wS_seq, seqQ_nx, seqQ_rt, seqQ_bk, seqQ_ct, seqQ_exc]); try simp_arith)
    refine ⟨by omega, s3, pl.eraseIdx v2.toNat, fl ++ [pl[v2.toNat]], _, by rw [List.map_append, erase_map]; rfl, hv3.up (by simp; omega), by rw [List.length_append, List.length_append, l1]; rfl, by rw [List.length_eraseIdx_of_lt hl, List.length_append, List.length_singleton]; omega, fun y hy => m1 y (List.mem_of_mem_eraseIdx hy), fun y hy => ?_⟩
    rcases List.mem_append.mp hy with h | h
    · exact m2 y h
    · rw [List.mem_singleton.mp h]; exact m1 _ (List.getElem_mem _)
theorem shuffled_ok {s : Rd} {B : Int} {nm ys : List Str} {kvs : List (PyData × PyData)} {Q : DV → List Ob → Prop} {E : EF} (hn : Nm nm) (hd : DN nm kvs) (hy : ∀ y, y ∈ ys → y ∈ nm) (yl : ys.length ≤ 6) (hv : s.V B) (hB : B < 900000)
    (k : ∀ (kvs' : List (PyData × PyData)) (s' : Rd), DN nm kvs' → s'.V (B + 10) → Q (.dat .none) [s'.o, .dic kvs']) : wF fn__law_shuffled [.own false s.o, .own false (.dic kvs), .dat (.tuple (ys.map .str))] Q E := by
  unfold fn__law_shuffled
  rw [wF_of]; simp only [entry, List.map_cons, List.map_nil, List.length_cons, List.length_nil, Nat.reduceAdd, Nat.reduceSub, List.replicate_succ, List.replicate_zero, List.cons_append, List.nil_append]
  unfold m__law_shuffled
  have hsz := sizeBig
  have n1 := hn.l1
  ((try simp only [wS_seq, seqQ_nx, seqQ_rt, seqQ_bk, seqQ_ct, seqQ_exc]); try simp_arith)
  refine ⟨by omega, ?_⟩
  refine lc_for (fun pre acc r => ∃ (ms : List Int), r = [some (.own false s.o), some (.own false (.dic kvs)), some (.dat (.tuple (ys.map .str))), none, none] ∧ acc = ms.map .int ∧ ms.length = pre.length ∧ ∀ m, m ∈ ms → m = 0 ∨ m = 1) ys
    ⟨[], rfl, rfl, rfl, fun y h => absurd h List.not_mem_nil⟩ ?_ ?_
  · rintro zs r ⟨ms, rfl, rfl, l1, m1⟩
    ((try simp only [wS_seq, seqQ_nx, seqQ_rt, seqQ_bk, seqQ_ct, seqQ_exc]); try simp_arith)
    ((try simp only [wS_seq, seqQ_nx, seqQ_rt, seqQ_bk, seqQ_ct, seqQ_exc]); try simp_arith)
    refine for_map (fun pre r => ∃ (s' : Rd) (ms : List Int) (kv' : List (PyData × PyData)) (z : Option Sl), r = [some (.own false s'.o), some (.own false (.dic kv')), some (.dat (.tuple (ys.map .str))), some (.own true (.lst (ms.map .int))), z] ∧ s'.V (B + pre.length) ∧ ms.length + pre.length = ys.length ∧ (∀ m, m ∈ ms → m = 0 ∨ m = 1) ∧ DN nm kv') ys
      ⟨s, ms, kvs, _, rfl, hv.up (by simp), by simpa using l1, m1, hd⟩ ?_ ?_
    · rintro r ⟨s2, ms, kv', z, rfl, hv2, l2, m2, hd2⟩
      ((try simp only [wS_seq, seqQ_nx, seqQ_rt, seqQ_bk, seqQ_ct, seqQ_exc]); try simp_arith)
      exact k kv' s2 hd2 (hv2.up (by omega))
    · rintro pre x post r hpre ⟨s2, ms, kv', z, rfl, hv2, l2, m2, hd2⟩
      have hpl : pre.length < ys.length := by rw [hpre]; simp
      have hx : x ∈ nm := hy x (by rw [hpre]; simp)
      ((try simp only [wS_seq, seqQ_nx, seqQ_rt, seqQ_bk, seqQ_ct, seqQ_exc]); try simp_arith)
      refine draw_ok (s := s2) (B := B + pre.length) (by omega) (by omega) hv2 (by omega) fun v2 s3 b0 b1 hv3 => ?_
      ((try simp only [wS_seq, seqQ_nx, seqQ_rt, seqQ_bk, seqQ_ct, seqQ_exc]); try simp_arith)
      rw [ixN_of b0 b1]
      ((try simp only [wS_seq, seqQ_nx, seqQ_rt, seqQ_bk, seqQ_ct, seqQ_exc]); try simp_arith)
      have hl : v2.toNat < ms.length := by omega
      rw [List.getElem?_map, List.getElem?_eq_getElem hl]
      show optQ (some (PyData.int ms[v2.toNat])) _
      ((try simp only [wS_seq, seqQ_nx, seqQ_rt, seqQ_bk, seqQ_ct, seqQ_exc]); try simp_arith)
      refine ⟨by rw [hd2.len]; omega, s3, ms.eraseIdx v2.toNat, _, _, by rw [erase_map], hv3.up (by simp; omega), by rw [List.length_eraseIdx_of_lt hl, List.length_append, List.length_singleton]; omega, fun y hy => m2 y (List.mem_of_mem_eraseIdx hy), hd2.put hx (m2 _ (List.getElem_mem _))⟩
  · rintro pre x post acc r hpre ⟨ms, rfl, rfl, l1, m1⟩
    have hx : x ∈ nm := hy x (by rw [hpre]; simp)
    obtain ⟨v, hv', e⟩ := hd.at hx
    ((try simp only [wS_seq, seqQ_nx, seqQ_rt, seqQ_bk, seqQ_ct, seqQ_exc]); try simp_arith)
    rw [e]
    ((try simp only [wS_seq, seqQ_nx, seqQ_rt, seqQ_bk, seqQ_ct, seqQ_exc]); try simp_arith)
    refine ⟨ms ++ [v], by rw [List.map_append]; rfl, by rw [List.length_append, List.length_append, l1]; rfl, fun m hm => ?_⟩
    rcases List.mem_append.mp hm with h | h
    · exact m1 m h
    · rw [List.mem_singleton.mp h]; exact hv'
end Lw
namespace Lw
open PySem PySem.Spec PyProof.Rows L2 Dn
theorem who_ok {x : PyData} (h : x ∈ [PyData.str "ann", PyData.str "bob", PyData.str "cy"]) : ∃ w, Ok w ∧ x = .str w := by
  have e : [PyData.str "ann", PyData.str "bob", PyData.str "cy"] = (["ann", "bob", "cy"] : List Str).map .str := rfl
  rw [e] at h
  obtain ⟨w, hw, rfl⟩ := List.mem_map.mp h
  have : ∀ x, x ∈ (["ann", "bob", "cy"] : List Str) → (PyData.strOk x && decide (x.cps.size ≤ 10)) = true := by decide +kernel
  exact ⟨w, litOk w (this w hw), rfl⟩
theorem event_ok {s : Rd} {B : Int} {nm : List Str} {kvs : List (PyData × PyData)} {rep : Bool} {Q : DV → List Ob → Prop} {E : EF} (hn : Nm nm) (hd : DN nm kvs) (hv : s.V B) (hB : B < 800000)
    (k : ∀ (e : Ev) (kvs' : List (PyData × PyData)) (s' : Rd), e.V → DN nm kvs' → s'.V (B + 100) → Q (.dat e.d) [s'.o, .dic kvs']) : wF fn__law_event [.own false s.o, .own false (.dic kvs), .dat (.list (nm.map .str)), .dat (.bool rep)] Q E := by
  unfold fn__law_event
  rw [wF_of]; simp only [entry, List.map_cons, List.map_nil, List.length_cons, List.length_nil, Nat.reduceAdd, Nat.reduceSub, List.replicate_succ, List.replicate_zero, List.cons_append, List.nil_append]
  unfold m__law_event
  have hsz := sizeBig
  have n0 := hn.l0
  have n1 := hn.l1
  ((try simp only [wS_seq, seqQ_nx, seqQ_rt, seqQ_bk, seqQ_ct, seqQ_exc]); try simp_arith)
  refine choice_ok (s := s) (B := B) (by decide) (by decide) hv (by omega) fun x s1 hx hv1 => ?_
  obtain ⟨w, hw, rfl⟩ := who_ok hx
  ((try simp only [wS_seq, seqQ_nx, seqQ_rt, seqQ_bk, seqQ_ct, seqQ_exc]); try simp_arith)
  refine choice_ok (s := s1) (B := B + 1) (by rw [List.length_map]; omega) (by rw [List.length_map]; omega) hv1 (by omega) fun x s2 hx hv2 => ?_
  obtain ⟨p, hp, rfl⟩ := List.mem_map.mp hx
  have op := hn.ok p hp
  ((try simp only [wS_seq, seqQ_nx, seqQ_rt, seqQ_bk, seqQ_ct, seqQ_exc]); try simp_arith)
  ((try simp only [wS_seq, seqQ_nx, seqQ_rt, seqQ_bk, seqQ_ct, seqQ_exc]); try simp_arith)
  refine draw_ok (s := s2) (B := B + 2) (by decide) (by decide) (hv2.up (by omega)) (by omega) fun v3 s3 a0 a1 hv3 => ?_
  ((try simp only [wS_seq, seqQ_nx, seqQ_rt, seqQ_bk, seqQ_ct, seqQ_exc]); try simp_arith)
  have hw1 : ∃ wr : Int, (if PyData.eqv (PyData.int v3) (PyData.int 0) = true then (1 : Int) else 0) = wr ∧ 0 ≤ wr ∧ wr ≤ 1 := by
    split
    · exact ⟨1, rfl, by decide, by decide⟩
    · exact ⟨0, rfl, by decide, by decide⟩
  obtain ⟨wr, ew, wr0, wr1⟩ := hw1
  rw [ew]
  clear ew
  cases rep with
  | true =>
    ((try simp only [wS_seq, seqQ_nx, seqQ_rt, seqQ_bk, seqQ_ct, seqQ_exc]); try simp_arith)
    refine draw_ok (s := s3) (B := B + 3) (by decide) (by decide) (hv3.up (by omega)) (by omega) fun v4 s4 c0 c1 hv4 => ?_
    ((try simp only [wS_seq, seqQ_nx, seqQ_rt, seqQ_bk, seqQ_ct, seqQ_exc]); try simp_arith)
    ((try simp only [wS_seq, seqQ_nx, seqQ_rt, seqQ_bk, seqQ_ct, seqQ_exc]); try simp_arith)
    have hway : v4 = 0 ∨ v4 = 1 := by omega
    rcases hway with rfl | rfl
    · rw [if_pos (by rw [eqv_ii]; rfl)]
      obtain ⟨t, ht, e⟩ := hd.at hp
      rw [e]
      ((try simp only [wS_seq, seqQ_nx, seqQ_rt, seqQ_bk, seqQ_ct, seqQ_exc]); try simp_arith)
      obtain ⟨z0, z1⟩ := fm (a := t + wr) (n := 2) (by decide)
      exact k (.look w p ((t + wr).fmod 2)) kvs s4 ⟨hw, op, z0, z1⟩ hd (hv4.up (by omega))
    · rw [if_neg (by rw [eqv_ii]; decide)]
      ((try simp only [wS_seq, seqQ_nx, seqQ_rt, seqQ_bk, seqQ_ct, seqQ_exc]); try simp_arith)
      rw [if_pos (by rw [eqv_ii]; rfl)]
      ((try simp only [wS_seq, seqQ_nx, seqQ_rt, seqQ_bk, seqQ_ct, seqQ_exc]); try simp_arith)
      refine places_ok (s := s4) (B := B + 4) hn (by decide) (by omega) (hv4.up (by omega)) (by omega) fun ys s5 y1 y2 y3 hv5 => ?_
      ((try simp only [wS_seq, seqQ_nx, seqQ_rt, seqQ_bk, seqQ_ct, seqQ_exc]); try simp_arith)
      ((try simp only [wS_seq, seqQ_nx, seqQ_rt, seqQ_bk, seqQ_ct, seqQ_exc]); try simp_arith)
      refine ⟨by omega, ?_⟩
      refine lc_for (fun pre acc r => ∃ (ms : List Int), r = [some (.own false s5.o), some (.own false (.dic kvs)), some (.dat (.list (nm.map .str))), some (.dat (.bool true)), some (.dat (.int wr)), some (.dat (.int 1)), some (.dat (.tuple (ys.map .str))), some (.dat (.str w)), some (.dat (.str p)), none, none] ∧ acc = ms.map .int ∧ ms.length = pre.length ∧ ∀ m, m ∈ ms → m = 0 ∨ m = 1) ys
        ⟨[], rfl, rfl, rfl, fun y h => absurd h List.not_mem_nil⟩ ?_ ?_
      · rintro zs r ⟨ms, rfl, rfl, l1, m1⟩
        ((try simp only [wS_seq, seqQ_nx, seqQ_rt, seqQ_bk, seqQ_ct, seqQ_exc]); try simp_arith [sumD_map])
        have s01 := sum01 m1
        refine ⟨by omega, ?_⟩
        ((try simp only [wS_seq, seqQ_nx, seqQ_rt, seqQ_bk, seqQ_ct, seqQ_exc]); try simp_arith)
        refine shuffled_ok (s := s5) (B := B + 24) hn hd y1 y3 (hv5.up (by omega)) (by omega) fun kvs' s6 hd6 hv6 => ?_
        ((try simp only [wS_seq, seqQ_nx, seqQ_rt, seqQ_bk, seqQ_ct, seqQ_exc]); try simp_arith)
        ((try simp only [wS_seq, seqQ_nx, seqQ_rt, seqQ_bk, seqQ_ct, seqQ_exc]); try simp_arith)
        obtain ⟨z0, z1⟩ := fm (a := ms.sum + wr) (n := (ys.length : Int) + 1) (by omega)
        exact k (.pour w ys ((ms.sum + wr).fmod ((ys.length : Int) + 1))) kvs' s6 ⟨hw, ⟨fun y hy => hn.ok y (y1 y hy), by omega⟩, by omega, z0, by omega⟩ hd6 (hv6.up (by omega))
      · rintro pre x post acc r hpre ⟨ms, rfl, rfl, l1, m1⟩
        have hx : x ∈ nm := y1 x (by rw [hpre]; simp)
        obtain ⟨v, hv', e⟩ := hd.at hx
        ((try simp only [wS_seq, seqQ_nx, seqQ_rt, seqQ_bk, seqQ_ct, seqQ_exc]); try simp_arith)
        rw [e]
        ((try simp only [wS_seq, seqQ_nx, seqQ_rt, seqQ_bk, seqQ_ct, seqQ_exc]); try simp_arith)
        refine ⟨ms ++ [v], by rw [List.map_append]; rfl, by rw [List.length_append, List.length_append, l1]; rfl, fun m hm => ?_⟩
        rcases List.mem_append.mp hm with h | h
        · exact m1 m h
        · rw [List.mem_singleton.mp h]; exact hv'
  | false =>
    ((try simp only [wS_seq, seqQ_nx, seqQ_rt, seqQ_bk, seqQ_ct, seqQ_exc]); try simp_arith)
    refine draw_ok (s := s3) (B := B + 3) (by decide) (by decide) (hv3.up (by omega)) (by omega) fun v4 s4 c0 c1 hv4 => ?_
    ((try simp only [wS_seq, seqQ_nx, seqQ_rt, seqQ_bk, seqQ_ct, seqQ_exc]); try simp_arith)
    ((try simp only [wS_seq, seqQ_nx, seqQ_rt, seqQ_bk, seqQ_ct, seqQ_exc]); try simp_arith)
    rw [if_neg (by rw [eqv_ii]; intro z; have := eq_of_beq z; omega)]
    ((try simp only [wS_seq, seqQ_nx, seqQ_rt, seqQ_bk, seqQ_ct, seqQ_exc]); try simp_arith)
    rw [if_neg (by rw [eqv_ii]; intro z; have := eq_of_beq z; omega)]
    ((try simp only [wS_seq, seqQ_nx, seqQ_rt, seqQ_bk, seqQ_ct, seqQ_exc]); try simp_arith)
    by_cases h4 : v4 = 0
    · subst h4
      rw [if_pos (by rw [eqv_ii]; rfl)]
      ((try simp only [wS_seq, seqQ_nx, seqQ_rt, seqQ_bk, seqQ_ct, seqQ_exc]); try simp_arith)
      refine draw_ok (s := s4) (B := B + 4) (by decide) (by decide) (hv4.up (by omega)) (by omega) fun v5 s5 d0 d1 hv5 => ?_
      ((try simp only [wS_seq, seqQ_nx, seqQ_rt, seqQ_bk, seqQ_ct, seqQ_exc]); try simp_arith)
      refine ⟨by rw [hd.len]; omega, ?_⟩
      have hd5 := hd.put hp (mk01 d0 d1)
      ((try simp only [wS_seq, seqQ_nx, seqQ_rt, seqQ_bk, seqQ_ct, seqQ_exc]); try simp_arith)
      refine draw_ok (s := s5) (B := B + 5) (by decide) (by decide) (hv5.up (by omega)) (by omega) fun v6 s6 e0 e1 hv6 => ?_
      ((try simp only [wS_seq, seqQ_nx, seqQ_rt, seqQ_bk, seqQ_ct, seqQ_exc]); try simp_arith)
      split
      · obtain ⟨t, ht, e⟩ := hd5.at hp
        rw [e]
        ((try simp only [wS_seq, seqQ_nx, seqQ_rt, seqQ_bk, seqQ_ct, seqQ_exc]); try simp_arith)
        exact k (.new p (some t)) _ s6 ⟨op, MkV.of ht⟩ hd5 (hv6.up (by omega))
      · exact k (.new p none) _ s6 ⟨op, .inl rfl⟩ hd5 (hv6.up (by omega))
    · rw [if_neg (by rw [eqv_ii]; intro z; have := eq_of_beq z; omega)]
      ((try simp only [wS_seq, seqQ_nx, seqQ_rt, seqQ_bk, seqQ_ct, seqQ_exc]); try simp_arith)
      split
      · exact k (.new p none) _ s4 ⟨op, .inl rfl⟩ hd (hv4.up (by omega))
      · rename_i h2
        have h2 : ¬ (nm.length : Int) < 2 := fun z => h2 (decide_eq_true z)
        ((try simp only [wS_seq, seqQ_nx, seqQ_rt, seqQ_bk, seqQ_ct, seqQ_exc]); try simp_arith)
        refine places_ok (s := s4) (B := B + 4) hn (by decide) (by omega) (hv4.up (by omega)) (by omega) fun ys s5 y1 y2 y3 hv5 => ?_
        ((try simp only [wS_seq, seqQ_nx, seqQ_rt, seqQ_bk, seqQ_ct, seqQ_exc]); try simp_arith)
        ((try simp only [wS_seq, seqQ_nx, seqQ_rt, seqQ_bk, seqQ_ct, seqQ_exc]); try simp_arith)
        refine shuffled_ok (s := s5) (B := B + 24) hn hd y1 y3 (hv5.up (by omega)) (by omega) fun kvs' s6 hd6 hv6 => ?_
        ((try simp only [wS_seq, seqQ_nx, seqQ_rt, seqQ_bk, seqQ_ct, seqQ_exc]); try simp_arith)
        ((try simp only [wS_seq, seqQ_nx, seqQ_rt, seqQ_bk, seqQ_ct, seqQ_exc]); try simp_arith)
        exact k (.mix w ys) kvs' s6 ⟨hw, ⟨fun y hy => hn.ok y (y1 y hy), by omega⟩, by omega⟩ hd6 (hv6.up (by omega))
theorem case_ok {s : Rd} {B mE mR : Int} {Q : DV → List Ob → Prop} {E : EF} (e0 : 0 ≤ mE) (e1 : mE ≤ 12) (hv : s.V B) (hB : B < 700000)
    (k : ∀ (h : Hist) (s' : Rd), h.V → 0 < h.start.length → h.events.length ≤ mE → (h.start.map (·.1)).Nodup → s'.V (B + 2000) → Q (.dat h.d) [s'.o]) : wF fn__law_case [.own false s.o, .dat (.int 6), .dat (.int mE), .dat (.int mR)] Q E := by
  unfold fn__law_case
  rw [wF_of]; simp only [entry, List.map_cons, List.map_nil, List.length_cons, List.length_nil, Nat.reduceAdd, Nat.reduceSub, List.replicate_succ, List.replicate_zero, List.cons_append, List.nil_append]
  unfold m__law_case
  have hsz := sizeBig
  ((try simp only [wS_seq, seqQ_nx, seqQ_rt, seqQ_bk, seqQ_ct, seqQ_exc]); try simp_arith)
  refine start_ok (s := s) (B := B) hv (by omega) fun st nm kvs s1 hn hst hmk hd hv1 => ?_
  have n1 := hn.l1
  have hsl : st.length = nm.length := by rw [← hst, List.length_map]
  ((try simp only [wS_seq, seqQ_nx, seqQ_rt, seqQ_bk, seqQ_ct, seqQ_exc]); try simp_arith)
  ((try simp only [wS_seq, seqQ_nx, seqQ_rt, seqQ_bk, seqQ_ct, seqQ_exc]); try simp_arith)
  refine ⟨by omega, ?_⟩
  refine lc_map st (fun _ => true) (fun p => .str p.1) ?_ ?_
  · intro p hp
    unfold stD
    ((try simp only [wS_seq, seqQ_nx, seqQ_rt, seqQ_bk, seqQ_ct, seqQ_exc]); try simp_arith)
  · rw [List.filter_eq_self.mpr fun _ _ => rfl]
    have enm : (st.map fun p => PyData.str p.1) = nm.map .str := by rw [← hst, List.map_map]; rfl
    rw [enm]
    ((try simp only [wS_seq, seqQ_nx, seqQ_rt, seqQ_bk, seqQ_ct, seqQ_exc]); try simp_arith)
    ((try simp only [wS_seq, seqQ_nx, seqQ_rt, seqQ_bk, seqQ_ct, seqQ_exc]); try simp_arith)
    refine draw_ok (s := s1) (B := B + 20) (by omega) (by omega) (hv1.up (by omega)) (by omega) fun v s2 v0 v1 hv2 => ?_
    ((try simp only [wS_seq, seqQ_nx, seqQ_rt, seqQ_bk, seqQ_ct, seqQ_exc]); try simp_arith)
    refine ⟨b62 (by omega) (by omega), ?_⟩
    refine for_map (g := fun i : Nat => PyData.int (0 + (i : Int))) (fun pre r => ∃ (s' : Rd) (es : List Ev) (kv' : List (PyData × PyData)) (n : Int) (z1 z2 : Option Sl), r = [some (.own false s'.o), some (.dat (.int 6)), some (.dat (.int mE)), some (.dat (.int mR)), z1, some (.dat (.tuple (st.map stD))), some (.own true (.dic kv')), some (.dat (.list (nm.map .str))), some (.own true (.lst (es.map Ev.d))), some (.dat (.int n)), z2, none, none] ∧ s'.V (B + 21 + 101 * pre.length) ∧ es.length = pre.length ∧ DN nm kv' ∧ ∀ e, e ∈ es → e.V) (List.range v.toNat)
      ⟨s2, [], kvs, 0, _, _, rfl, hv2.up (by simp; omega), rfl, hd, fun e h => absurd h List.not_mem_nil⟩ ?_ ?_
    · rintro r ⟨s3, es, kv', n, z1, z2, rfl, hv3, l1, hd3, he⟩
      rw [List.length_range] at l1 hv3
      ((try simp only [wS_seq, seqQ_nx, seqQ_rt, seqQ_bk, seqQ_ct, seqQ_exc]); try simp_arith)
      refine k ⟨st, es⟩ s3 ⟨fun p hp => ⟨hn.ok p.1 (by rw [← hst]; exact List.mem_map_of_mem hp), hmk p hp⟩, by dsimp only; omega, he, by dsimp only; omega⟩ (by dsimp only; have := hn.l0; omega) (by dsimp only; omega) (by dsimp only; rw [hst]; exact hn.nd) (hv3.up (by omega))
    · rintro pre x post r hpre ⟨s3, es, kv', n, z1, z2, rfl, hv3, l1, hd3, he⟩
      have hpl : pre.length < v.toNat := by
        have z := congrArg List.length hpre
        rw [List.length_range, List.length_append, List.length_cons] at z
        omega
      ((try simp only [wS_seq, seqQ_nx, seqQ_rt, seqQ_bk, seqQ_ct, seqQ_exc]); try simp_arith)
      split
      · refine draw_ok (s := s3) (B := B + 21 + 101 * pre.length) (by decide) (by decide) hv3 (by omega) fun v2 s4 b0 b1 hv4 => ?_
        ((try simp only [wS_seq, seqQ_nx, seqQ_rt, seqQ_bk, seqQ_ct, seqQ_exc]); try simp_arith)
        generalize PyData.eqv (PyData.int v2) (PyData.int 0) = bb
        refine event_ok (s := s4) (B := B + 22 + 101 * pre.length) (rep := bb) hn hd3 (by first | exact hv4.up (by omega) | exact hv3.up (by omega)) (by omega) fun e kv4 s5 ev hd4 hv5 => ?_
        ((try simp only [wS_seq, seqQ_nx, seqQ_rt, seqQ_bk, seqQ_ct, seqQ_exc]); try simp_arith)
        refine ⟨by omega, ?_⟩
        ((try simp only [wS_seq, seqQ_nx, seqQ_rt, seqQ_bk, seqQ_ct, seqQ_exc]); try simp_arith)
        refine ⟨s5, es ++ [e], kv4, _, _, _, by rw [List.map_append]; rfl, hv5.up (by simp; omega), by rw [List.length_append, List.length_append, l1]; rfl, hd4, fun e' h' => ?_⟩
        rcases List.mem_append.mp h' with h | h
        · exact he e' h
        · rw [List.mem_singleton.mp h]; exact ev
      · ((try simp only [wS_seq, seqQ_nx, seqQ_rt, seqQ_bk, seqQ_ct, seqQ_exc]); try simp_arith)
        refine event_ok (s := s3) (B := B + 22 + 101 * pre.length) (rep := false) hn hd3 (by first | exact hv4.up (by omega) | exact hv3.up (by omega)) (by omega) fun e kv4 s5 ev hd4 hv5 => ?_
        ((try simp only [wS_seq, seqQ_nx, seqQ_rt, seqQ_bk, seqQ_ct, seqQ_exc]); try simp_arith)
        refine ⟨by omega, ?_⟩
        ((try simp only [wS_seq, seqQ_nx, seqQ_rt, seqQ_bk, seqQ_ct, seqQ_exc]); try simp_arith)
        refine ⟨s5, es ++ [e], kv4, _, _, _, by rw [List.map_append]; rfl, hv5.up (by simp; omega), by rw [List.length_append, List.length_append, l1]; rfl, hd4, fun e' h' => ?_⟩
        rcases List.mem_append.mp h' with h | h
        · exact he e' h
        · rw [List.mem_singleton.mp h]; exact ev
end Lw
namespace Lw
open PySem PySem.Spec PyProof.Rows L2 Dn
/-! ### prices -/
theorem d_mix (w : Str) (ps : List Str) : (Ev.mix w ps).d = .tuple [.str "mix", .str w, .tuple (ps.map .str)] := rfl
theorem d_new (p : Str) (m : Option Int) : (Ev.new p m).d = .tuple [.str "new", .str p, mkD m] := rfl
theorem d_look (w p : Str) (m : Int) : (Ev.look w p m).d = .tuple [.str "look", .str w, .str p, .int m] := rfl
theorem d_pour (w : Str) (ps : List Str) (c : Int) : (Ev.pour w ps c).d = .tuple [.str "pour", .str w, .tuple (ps.map .str), .int c] := rfl
theorem goods_sml {l : List Int} (h : ∀ i, i ∈ l → i.natAbs ≤ 3) (hl : l.length ≤ 14) : Good 3 1 50 (.tuple (l.map .int)) := by
  refine good_tup.mpr ((goods_all (w := 2) (b := 3) (n := 0) fun d hd => ?_).up (Nat.le_refl _) (Nat.le_refl _) (by rw [List.length_map]; omega))
  obtain ⟨i, hi, rfl⟩ := List.mem_map.mp hd
  exact good_sml (h i hi) (Nat.le_refl _)
theorem goods_two {i j : Int} (hi : i.natAbs ≤ 3) (hj : j.natAbs ≤ 3) : Good 3 1 50 (.tuple [.int i, .int j]) := goods_sml (l := [i, j]) (fun x hx => by
  rcases List.mem_cons.mp hx with h | h
  · rw [h]; exact hi
  · rw [List.mem_singleton.mp h]; exact hj) (by show 2 ≤ 14; decide)
theorem rates_ok {s : Rd} {B : Int} {h : Hist} {flat : Bool} {Q : DV → List Ob → Prop} {E : EF} (hh : h.V) (hv : s.V B) (hB : B < 900000)
    (k : ∀ (rs : List PyData) (s' : Rd), rs.length = h.events.length → (∀ d, d ∈ rs → Good 3 1 50 d) → s'.V (B + 300) → Q (.dat (.tuple rs)) [s'.o]) : wF fn__law_rates [.own false s.o, .dat h.d, .dat (.bool flat)] Q E := by
  unfold fn__law_rates Hist.d
  rw [wF_of]; simp only [entry, List.map_cons, List.map_nil, List.length_cons, List.length_nil, Nat.reduceAdd, Nat.reduceSub, List.replicate_succ, List.replicate_zero, List.cons_append, List.nil_append]
  unfold m__law_rates
  have hsz := sizeBig
  have hl := hh.el
  ((try simp only [wS_seq, seqQ_nx, seqQ_rt, seqQ_bk, seqQ_ct, seqQ_exc]); try simp_arith)
  ((try simp only [wS_seq, seqQ_nx, seqQ_rt, seqQ_bk, seqQ_ct, seqQ_exc]); try simp_arith)
  refine for_map (fun pre r => ∃ (s' : Rd) (rs : List PyData) (z1 z2 : Option Sl), r = [some (.own false s'.o), some (.dat (.tuple [.tuple (h.start.map stD), .tuple (h.events.map Ev.d)])), some (.dat (.bool flat)), some (.own true (.lst rs)), z1, z2, none] ∧ s'.V (B + 20 * pre.length) ∧ rs.length = pre.length ∧ ∀ d, d ∈ rs → Good 3 1 50 d) h.events
    ⟨s, [], _, _, rfl, hv.up (by simp), rfl, fun e h => absurd h List.not_mem_nil⟩ ?_ ?_
  · rintro r ⟨s2, rs, z1, z2, rfl, hv2, l1, g1⟩
    ((try simp only [wS_seq, seqQ_nx, seqQ_rt, seqQ_bk, seqQ_ct, seqQ_exc]); try simp_arith)
    exact k rs s2 l1 g1 (hv2.up (by omega))
  · rintro pre e post r hpre ⟨s2, rs, z1, z2, rfl, hv2, l1, g1⟩
    have hpl : pre.length < h.events.length := by rw [hpre]; simp
    have he := hh.e e (by rw [hpre]; simp)
    cases e with
    | mix w ps =>
      have pl := he.2.1.l
      rw [d_mix]
      ((try simp only [wS_seq, seqQ_nx, seqQ_rt, seqQ_bk, seqQ_ct, seqQ_exc]); try simp_arith)
      ((try simp only [wS_seq, seqQ_nx, seqQ_rt, seqQ_bk, seqQ_ct, seqQ_exc]); try simp_arith)
      refine draw_ok (s := s2) (B := B + 20 * pre.length) (by decide) (by decide) hv2 (by omega) fun v2 s3 b0 b1 hv3 => ?_
      ((try simp only [wS_seq, seqQ_nx, seqQ_rt, seqQ_bk, seqQ_ct, seqQ_exc]); try simp_arith)
      ((try simp only [wS_seq, seqQ_nx, seqQ_rt, seqQ_bk, seqQ_ct, seqQ_exc]); try simp_arith)
      refine ⟨by omega, ?_⟩
      refine lc_for (fun pr acc r => ∃ (s' : Rd) (l : List Int), r = [some (.own false s'.o), some (.dat (.tuple [.tuple (h.start.map stD), .tuple (h.events.map Ev.d)])), some (.dat (.bool flat)), some (.own true (.lst rs)), some (.dat (.tuple [.str "mix", .str w, .tuple (ps.map .str)])), some (.dat (.int (v2 - 3))), none] ∧ s'.V (B + 20 * pre.length + 1 + pr.length) ∧ acc = l.map .int ∧ l.length = pr.length ∧ ∀ i, i ∈ l → i.natAbs ≤ 3) ps
        ⟨s3, [], rfl, hv3.up (by simp), rfl, rfl, fun e h => absurd h List.not_mem_nil⟩ ?_ ?_
      · rintro ys r ⟨s4, l, rfl, hv4, rfl, l2, m2⟩
        ((try simp only [wS_seq, seqQ_nx, seqQ_rt, seqQ_bk, seqQ_ct, seqQ_exc]); try simp_arith)
        refine ⟨by omega, s4, rs ++ [PyData.tuple (l.map .int)], _, _, rfl, (hv4).up (by simp; omega), by rw [List.length_append, List.length_append, l1]; rfl, fun d' h' => ?_⟩
        rcases List.mem_append.mp h' with h | h
        · exact g1 d' h
        · rw [List.mem_singleton.mp h]; exact goods_sml m2 (by omega)
      · rintro pr x po acc r hpr ⟨s4, l, rfl, hv4, rfl, l2, m2⟩
        have hql : pr.length < ps.length := by rw [hpr]; simp
        cases flat with
        | true =>
          ((try simp only [wS_seq, seqQ_nx, seqQ_rt, seqQ_bk, seqQ_ct, seqQ_exc]); try simp_arith)
          refine ⟨s4, l ++ [v2 - 3], rfl, by first | exact hv5.up (by simp; omega) | exact hv4.up (by simp; omega), by rw [List.map_append]; rfl, by rw [List.length_append, List.length_append, l2]; rfl, fun j hj => ?_⟩
          rcases List.mem_append.mp hj with h | h
          · exact m2 j h
          · rw [List.mem_singleton.mp h]; omega
        | false =>
          ((try simp only [wS_seq, seqQ_nx, seqQ_rt, seqQ_bk, seqQ_ct, seqQ_exc]); try simp_arith)
          refine draw_ok (s := s4) (B := B + 20 * pre.length + 1 + pr.length) (by decide) (by decide) hv4 (by omega) fun v3 s5 c0 c1 hv5 => ?_
          ((try simp only [wS_seq, seqQ_nx, seqQ_rt, seqQ_bk, seqQ_ct, seqQ_exc]); try simp_arith)
          refine ⟨s5, l ++ [v3 - 3], rfl, by first | exact hv5.up (by simp; omega) | exact hv4.up (by simp; omega), by rw [List.map_append]; rfl, by rw [List.length_append, List.length_append, l2]; rfl, fun j hj => ?_⟩
          rcases List.mem_append.mp hj with h | h
          · exact m2 j h
          · rw [List.mem_singleton.mp h]; omega
    | pour w ps c =>
      rw [d_pour]
      ((try simp only [wS_seq, seqQ_nx, seqQ_rt, seqQ_bk, seqQ_ct, seqQ_exc]); try simp_arith)
      refine draw_ok (s := s2) (B := B + 20 * pre.length) (by decide) (by decide) hv2 (by omega) fun v2 s3 b0 b1 hv3 => ?_
      ((try simp only [wS_seq, seqQ_nx, seqQ_rt, seqQ_bk, seqQ_ct, seqQ_exc]); try simp_arith)
      refine draw_ok (s := s3) (B := B + 20 * pre.length + 1) (by decide) (by decide) hv3 (by omega) fun v3 s4 c0 c1 hv4 => ?_
      ((try simp only [wS_seq, seqQ_nx, seqQ_rt, seqQ_bk, seqQ_ct, seqQ_exc]); try simp_arith)
      refine ⟨by omega, s4, rs ++ [PyData.tuple [.int (v2 - 3), .int (v3 - 3)]], _, _, rfl, (hv4).up (by simp; omega), by rw [List.length_append, List.length_append, l1]; rfl, fun d' h' => ?_⟩
      rcases List.mem_append.mp h' with h | h
      · exact g1 d' h
      · rw [List.mem_singleton.mp h]; exact goods_two (by omega) (by omega)
    | new p m =>
      rw [d_new]
      ((try simp only [wS_seq, seqQ_nx, seqQ_rt, seqQ_bk, seqQ_ct, seqQ_exc]); try simp_arith)
      refine ⟨by omega, s2, rs ++ [PyData.none], _, _, rfl, (hv2).up (by simp; omega), by rw [List.length_append, List.length_append, l1]; rfl, fun d' h' => ?_⟩
      rcases List.mem_append.mp h' with h | h
      · exact g1 d' h
      · rw [List.mem_singleton.mp h]; exact good_none
    | look w p m =>
      rw [d_look]
      ((try simp only [wS_seq, seqQ_nx, seqQ_rt, seqQ_bk, seqQ_ct, seqQ_exc]); try simp_arith)
      refine ⟨by omega, s2, rs ++ [PyData.none], _, _, rfl, (hv2).up (by simp; omega), by rw [List.length_append, List.length_append, l1]; rfl, fun d' h' => ?_⟩
      rcases List.mem_append.mp h' with h | h
      · exact g1 d' h
      · rw [List.mem_singleton.mp h]; exact good_none
/-! ### their variants -/
abbrev bb : Nat := 10 ^ 50
def others : List PyData := [.none, .tuple [], .tuple [.int 0], .tuple [.int 0, .int 0], .tuple [.int 0, .int 0, .int 0], .tuple [.bool true, .int 0], .tuple [.int 0, .none], .list [.int 0, .int 0], .int 0, .tuple [.int (10 ^ (50 : Int).toNat), .int (-1)]]
theorem others_good : ∀ d, d ∈ others → Good bb 1 250 d := by
  have h : others.all (goodB bb 1 250) = true := by decide +kernel
  exact fun d hd => good_of (List.all_eq_true.mp h d hd)
theorem variants_ok {c : PyData} {rs : List PyData} {Q : DV → List Ob → Prop} {E : EF} (hl : rs.length ≤ 14) (hg : ∀ d, d ∈ rs → Good 3 1 50 d)
    (k : ∀ items : List PyData, items.length ≤ 200 → (∀ d, d ∈ items → Good bb 2 2000 d) → Q (.own (.lst items)) []) : wF fn__law_variants [.dat c, .dat (.tuple rs)] Q E := by
  unfold fn__law_variants
  rw [wF_of]; simp only [entry, List.map_cons, List.map_nil, List.length_cons, List.length_nil, Nat.reduceAdd, Nat.reduceSub, List.replicate_succ, List.replicate_zero, List.cons_append, List.nil_append]
  unfold m__law_variants
  have hsz := sizeBig
  have gs : Goods bb 1 800 rs := (goods_all hg).up (by decide) (Nat.le_refl _) (by omega)
  have gt : ∀ {ds : List PyData} {w : Nat}, Goods bb 1 w ds → w ≤ 2000 → Good bb 2 2000 (.tuple ds) := fun g hw => good_tup.mpr (g.up (Nat.le_refl _) (Nat.le_refl _) hw)
  have g00 : Good bb 1 10 (.tuple [.int 0, .int 0]) := good_of (by decide +kernel)
  have gp : Good bb 2 2000 (.str "prices") := good_of (by decide +kernel)
  ((try simp only [wS_seq, seqQ_nx, seqQ_rt, seqQ_bk, seqQ_ct, seqQ_exc]); try simp_arith)
  refine ⟨by omega, by omega, ?_⟩
  rw [cut_from (by decide), cut_last]
  ((try simp only [wS_seq, seqQ_nx, seqQ_rt, seqQ_bk, seqQ_ct, seqQ_exc]); try simp_arith)
  rw [enumL_en]
  refine for_map (fun pre r => ∃ (items : List PyData) (z1 z2 z3 : Option Sl), r = [some (.dat c), some (.dat (.tuple rs)), some (.own true (.lst items)), z1, z2, z3] ∧ items.length = 10 + 10 * pre.length ∧ ∀ d, d ∈ items → Good bb 2 2000 d) (en 0 rs)
    ⟨_, _, _, _, rfl, rfl, ?_⟩ ?_ ?_
  · intro d hd
    rcases List.mem_cons.mp hd with rfl | hd
    · exact gt gs (by decide)
    rcases List.mem_cons.mp hd with rfl | hd
    · exact gt gs.drop (by decide)
    rcases List.mem_cons.mp hd with rfl | hd
    · exact gt gs.take (by decide)
    rcases List.mem_cons.mp hd with rfl | hd
    · exact gt (goods_app gs (goods_one good_none)) (by decide)
    rcases List.mem_cons.mp hd with rfl | hd
    · exact gt (goods_app gs (goods_one ⟨g00.o, g00.dp, Nat.le_refl _⟩)) (by decide)
    rcases List.mem_cons.mp hd with rfl | hd
    · exact good_lst.mpr (gs.up (Nat.le_refl _) (Nat.le_refl _) (by decide))
    rcases List.mem_cons.mp hd with rfl | hd
    · exact good_none
    rcases List.mem_cons.mp hd with rfl | hd
    · exact gt (w := 0) goods_nil (by decide)
    rcases List.mem_cons.mp hd with rfl | hd
    · exact good_bool _
    rw [List.mem_singleton.mp hd]
    exact gp
  · rintro r ⟨items, z1, z2, z3, rfl, l1, g1⟩
    rw [en_len] at l1
    ((try simp only [wS_seq, seqQ_nx, seqQ_rt, seqQ_bk, seqQ_ct, seqQ_exc]); try simp_arith)
    exact k items (by omega) g1
  · rintro pre ⟨kk, x⟩ post r hpre ⟨items, z1, z2, z3, rfl, l1, g1⟩
    obtain ⟨y1, y2⟩ := en_at rs 0 pre post (kk, x) hpre
    dsimp only at y1 y2
    have hpl : pre.length < rs.length := by
      have z := congrArg List.length hpre
      rw [en_len, List.length_append, List.length_cons] at z
      omega
    ((try simp only [wS_seq, seqQ_nx, seqQ_rt, seqQ_bk, seqQ_ct, seqQ_exc]); try simp_arith)
    refine ⟨by decide, ?_⟩
    refine for_list (fun pr r => ∃ (it2 : List PyData) (z3 : Option Sl), r = [some (.dat c), some (.dat (.tuple rs)), some (.own true (.lst it2)), some (.dat (.int (kk : Int))), some (.dat x), z3] ∧ it2.length = 10 + 10 * pre.length + pr.length ∧ ∀ d, d ∈ it2 → Good bb 2 2000 d) others
      ⟨items, _, rfl, l1, g1⟩ ?_ ?_
    · rintro r ⟨it2, z3, rfl, l2, g2⟩
      ((try simp only [wS_seq, seqQ_nx, seqQ_rt, seqQ_bk, seqQ_ct, seqQ_exc]); try simp_arith)
      exact ⟨it2, _, _, _, rfl, by rw [l2, List.length_append]; rfl, g2⟩
    · rintro pr d po r hpr ⟨it2, z3, rfl, l2, g2⟩
      have hql : pr.length < 10 := by
        have z := congrArg List.length hpr
        rw [List.length_append, List.length_cons] at z
        have : others.length = 10 := rfl
        omega
      have gd := others_good d (by rw [hpr]; simp)
      ((try simp only [wS_seq, seqQ_nx, seqQ_rt, seqQ_bk, seqQ_ct, seqQ_exc]); try simp_arith)
      rw [cut_take (by omega), cut_from (by omega)]
      ((try simp only [wS_seq, seqQ_nx, seqQ_rt, seqQ_bk, seqQ_ct, seqQ_exc]); try simp_arith)
      refine ⟨by rw [List.length_take]; omega, by rw [List.length_append, List.length_take, List.length_drop]; simp; omega, by omega, ?_⟩
      refine ⟨_, _, rfl, by rw [List.length_append, List.length_append, l2]; rfl, fun d' h' => ?_⟩
      rcases List.mem_append.mp h' with h | h
      · exact g2 d' h
      · rw [List.mem_singleton.mp h]
        exact gt (goods_app (goods_app gs.take (goods_one ⟨gd.o, gd.dp, Nat.le_refl _⟩)) gs.drop) (by have := gd.wt; omega)
end Lw
namespace Lw
open PySem PySem.Spec PyProof.Rows L2 Dn
/-! ### a part replaced -/
def strs9 : List PyData := [.str "A", .str "", .str "a", .str "bb", .str "range", .str "none", .str "clash", .str "within", .int 0]
theorem strs9_good : ∀ d, d ∈ strs9 → Good bb 1 250 d := by
  have h : strs9.all (goodB bb 1 250) = true := by decide +kernel
  exact fun d hd => good_of (List.all_eq_true.mp h d hd)
def kinds6 : List PyData := [.int 0, .str "a", .tuple [], .bool true, .tuple [.int 0, .int 0], .tuple [.int 1, .int (-1)]]
theorem kinds6_good : ∀ d, d ∈ kinds6 → Good bb 1 250 d := by
  have h : kinds6.all (goodB bb 1 250) = true := by decide +kernel
  exact fun d hd => good_of (List.all_eq_true.mp h d hd)
theorem lx : ("x" : Str).length = 1 := by decide +kernel
theorem app_len {x : Str} : (x ++ ("x" : Str)).length = x.length + 1 := by show (x.cps ++ _).size = _; rw [Array.size_append]; rfl
theorem replacement_ok {s : Rd} {B : Int} {b n w : Nat} {item : PyData} {Q : DV → List Ob → Prop} {E : EF} (hg : Good b n w item) (hb0 : bb ≤ b) (hb : b + 1 < 2 ^ 230) (hw : w ≤ 100000) (hv : s.V B) (hB : B < 980000)
    (k : ∀ (d : PyData) (s' : Rd), Good (b + 1) (n + 1) (2 * w + 300) d → s'.V (B + 2) → Q (.dat d) [s'.o]) : wF fn__law_replacement [.own false s.o, .dat item] Q E := by
  unfold fn__law_replacement
  rw [wF_of]; simp only [entry, List.map_cons, List.map_nil, List.length_cons, List.length_nil, Nat.reduceAdd, Nat.reduceSub, List.replicate_succ, List.replicate_zero, List.cons_append, List.nil_append]
  unfold m__law_replacement
  have hsz := sizeBig
  have lift : ∀ {d : PyData}, Good bb 1 250 d → Good (b + 1) (n + 1) (2 * w + 300) d := fun g => g.up (by omega) (by omega) (by omega)
  cases item with
  | dict l => exact absurd hg.o (by intro z; cases z)
  | none =>
    ((try simp only [wS_seq, seqQ_nx, seqQ_rt, seqQ_bk, seqQ_ct, seqQ_exc]); try simp_arith)
    ((try simp only [wS_seq, seqQ_nx, seqQ_rt, seqQ_bk, seqQ_ct, seqQ_exc]); try simp_arith)
    ((try simp only [wS_seq, seqQ_nx, seqQ_rt, seqQ_bk, seqQ_ct, seqQ_exc]); try simp_arith)
    ((try simp only [wS_seq, seqQ_nx, seqQ_rt, seqQ_bk, seqQ_ct, seqQ_exc]); try simp_arith)
    refine choice_ok (s := s) (B := B) (by decide) (by decide) hv (by omega) fun x s1 hx hv1 => ?_
    ((try simp only [wS_seq, seqQ_nx, seqQ_rt, seqQ_bk, seqQ_ct, seqQ_exc]); try simp_arith)
    exact k x s1 (lift (kinds6_good x hx)) (hv1.up (by omega))
  | bool c =>
    ((try simp only [wS_seq, seqQ_nx, seqQ_rt, seqQ_bk, seqQ_ct, seqQ_exc]); try simp_arith)
    ((try simp only [wS_seq, seqQ_nx, seqQ_rt, seqQ_bk, seqQ_ct, seqQ_exc]); try simp_arith)
    ((try simp only [wS_seq, seqQ_nx, seqQ_rt, seqQ_bk, seqQ_ct, seqQ_exc]); try simp_arith)
    ((try simp only [wS_seq, seqQ_nx, seqQ_rt, seqQ_bk, seqQ_ct, seqQ_exc]); try simp_arith)
    refine choice_ok (s := s) (B := B) (by decide) (by decide) hv (by omega) fun x s1 hx hv1 => ?_
    ((try simp only [wS_seq, seqQ_nx, seqQ_rt, seqQ_bk, seqQ_ct, seqQ_exc]); try simp_arith)
    exact k x s1 (lift (kinds6_good x hx)) (hv1.up (by omega))
  | list ds =>
    ((try simp only [wS_seq, seqQ_nx, seqQ_rt, seqQ_bk, seqQ_ct, seqQ_exc]); try simp_arith)
    ((try simp only [wS_seq, seqQ_nx, seqQ_rt, seqQ_bk, seqQ_ct, seqQ_exc]); try simp_arith)
    ((try simp only [wS_seq, seqQ_nx, seqQ_rt, seqQ_bk, seqQ_ct, seqQ_exc]); try simp_arith)
    ((try simp only [wS_seq, seqQ_nx, seqQ_rt, seqQ_bk, seqQ_ct, seqQ_exc]); try simp_arith)
    refine choice_ok (s := s) (B := B) (by decide) (by decide) hv (by omega) fun x s1 hx hv1 => ?_
    ((try simp only [wS_seq, seqQ_nx, seqQ_rt, seqQ_bk, seqQ_ct, seqQ_exc]); try simp_arith)
    exact k x s1 (lift (kinds6_good x hx)) (hv1.up (by omega))
  | int i =>
    have hi : i.natAbs ≤ b := of_decide_eq_true hg.o
    ((try simp only [wS_seq, seqQ_nx, seqQ_rt, seqQ_bk, seqQ_ct, seqQ_exc]); try simp_arith)
    ((try simp only [wS_seq, seqQ_nx, seqQ_rt, seqQ_bk, seqQ_ct, seqQ_exc]); try simp_arith)
    ((try simp only [wS_seq, seqQ_nx, seqQ_rt, seqQ_bk, seqQ_ct, seqQ_exc]); try simp_arith)
    refine ⟨⟨by decide, by decide, by decide⟩, ?_⟩
    refine draw_ok (s := s) (B := B) (by decide) (by decide) hv (by omega) fun v s1 v0 v1 hv1 => ?_
    ((try simp only [wS_seq, seqQ_nx, seqQ_rt, seqQ_bk, seqQ_ct, seqQ_exc]); try simp_arith)
    obtain ⟨x, hx, e⟩ := at_list (xs := [PyData.int (i + 1), PyData.int (i - 1), PyData.int 0, PyData.int (-1), PyData.int 10000000000000000000000000000000000000000, PyData.bool (PyData.eqv (PyData.int i) (PyData.int 1)), PyData.str "5", PyData.int 2]) v0 v1
    rw [e]
    ((try simp only [wS_seq, seqQ_nx, seqQ_rt, seqQ_bk, seqQ_ct, seqQ_exc]); try simp_arith)
    refine k x s1 ?_ (hv1.up (by omega))
    have gi : ∀ {j : Int}, j.natAbs ≤ b + 1 → Good (b + 1) (n + 1) (2 * w + 300) (.int j) := fun h => good_int h hb (by omega)
    have h5 : ∀ d, d ∈ [PyData.int 0, PyData.int (-1), PyData.int 10000000000000000000000000000000000000000, PyData.str "5", PyData.int 2] → Good bb 1 250 d := by
      have h : [PyData.int 0, PyData.int (-1), PyData.int 10000000000000000000000000000000000000000, PyData.str "5", PyData.int 2].all (goodB bb 1 250) = true := by decide +kernel
      exact fun d hd => good_of (List.all_eq_true.mp h d hd)
    rcases List.mem_cons.mp hx with rfl | hx
    · exact gi (by omega)
    rcases List.mem_cons.mp hx with rfl | hx
    · exact gi (by omega)
    rcases List.mem_cons.mp hx with rfl | hx
    · exact lift (h5 _ (by simp))
    rcases List.mem_cons.mp hx with rfl | hx
    · exact lift (h5 _ (by simp))
    rcases List.mem_cons.mp hx with rfl | hx
    · exact lift (h5 _ (List.mem_cons_of_mem _ (List.mem_cons_of_mem _ List.mem_cons_self)))
    rcases List.mem_cons.mp hx with rfl | hx
    · exact good_bool _
    rcases List.mem_cons.mp hx with rfl | hx
    · exact lift (h5 _ (List.mem_cons_of_mem _ (List.mem_cons_of_mem _ (List.mem_cons_of_mem _ List.mem_cons_self))))
    rw [List.mem_singleton.mp hx]
    exact lift (h5 _ (List.mem_cons_of_mem _ (List.mem_cons_of_mem _ (List.mem_cons_of_mem _ (List.mem_cons_of_mem _ List.mem_cons_self)))))
  | str x =>
    have hx : PyData.strOk x = true := hg.o
    have hxl : x.length ≤ w := hg.wt
    ((try simp only [wS_seq, seqQ_nx, seqQ_rt, seqQ_bk, seqQ_ct, seqQ_exc]); try simp_arith)
    ((try simp only [wS_seq, seqQ_nx, seqQ_rt, seqQ_bk, seqQ_ct, seqQ_exc]); try simp_arith)
    refine ⟨by rw [lx]; omega, by omega, ?_⟩
    refine choice_ok (s := s) (B := B) (by show 0 < 11; decide) (by show 11 < 1000; decide) hv (by omega) fun d s1 hd hv1 => ?_
    ((try simp only [wS_seq, seqQ_nx, seqQ_rt, seqQ_bk, seqQ_ct, seqQ_exc]); try simp_arith)
    refine k d s1 ?_ (hv1.up (by omega))
    rcases List.mem_cons.mp hd with rfl | hd
    · exact good_str (strOk_app hx (by decide +kernel)) (by rw [app_len]; omega)
    rcases List.mem_cons.mp hd with rfl | hd
    · exact good_str (strOk_cut hx) (by have := cutS_length x (some 1) none; omega)
    exact lift (strs9_good d hd)
  | tuple ds =>
    cases n with
    | zero => exact absurd hg.dp (Nat.not_succ_le_zero _)
    | succ m =>
      have gs : Goods b m w ds := good_tup.mp hg
      have gl := gs.len
      ((try simp only [wS_seq, seqQ_nx, seqQ_rt, seqQ_bk, seqQ_ct, seqQ_exc]); try simp_arith)
      ((try simp only [wS_seq, seqQ_nx, seqQ_rt, seqQ_bk, seqQ_ct, seqQ_exc]); try simp_arith)
      refine draw_ok (s := s) (B := B) (by omega) (by omega) hv (by omega) fun v s1 v0 v1 hv1 => ?_
      ((try simp only [wS_seq, seqQ_nx, seqQ_rt, seqQ_bk, seqQ_ct, seqQ_exc]); try simp_arith)
      ((try simp only [wS_seq, seqQ_nx, seqQ_rt, seqQ_bk, seqQ_ct, seqQ_exc]); try simp_arith)
      rw [cut_take v0, cut_from (by omega), cut_end, cut_from v0]
      refine ⟨by rw [List.length_take, List.length_drop]; omega, by rw [List.length_drop]; omega, ?_⟩
      ((try simp only [wS_seq, seqQ_nx, seqQ_rt, seqQ_bk, seqQ_ct, seqQ_exc]); try simp_arith)
      refine ⟨by rw [List.length_take]; omega, by rw [List.length_append, List.length_take, List.length_drop]; simp; omega, ?_⟩
      refine draw_ok (s := s1) (B := B + 1) (by decide) (by decide) (hv1.up (by omega)) (by omega) fun v2 s2 w0 w1 hv2 => ?_
      ((try simp only [wS_seq, seqQ_nx, seqQ_rt, seqQ_bk, seqQ_ct, seqQ_exc]); try simp_arith)
      obtain ⟨x, hx, e⟩ := at_list (xs := [PyData.tuple (ds.take v.toNat ++ ds.drop (v + 1).toNat), PyData.tuple (ds ++ ds.drop (ds.length - 1)), PyData.tuple ds.reverse, PyData.list ds, PyData.tuple [], PyData.none, PyData.tuple (ds.take v.toNat ++ [PyData.none] ++ ds.drop v.toNat)]) w0 w1
      rw [e]
      ((try simp only [wS_seq, seqQ_nx, seqQ_rt, seqQ_bk, seqQ_ct, seqQ_exc]); try simp_arith)
      refine k x s2 ?_ (hv2.up (by omega))
      have gt : ∀ {es : List PyData} {w' : Nat}, Goods b m w' es → w' ≤ 2 * w + 300 → Good (b + 1) (m + 1 + 1) (2 * w + 300) (.tuple es) := fun g h => good_tup.mpr (g.up (by omega) (by omega) h)
      rcases List.mem_cons.mp hx with rfl | hx
      · exact gt (goods_app gs.take gs.drop) (by omega)
      rcases List.mem_cons.mp hx with rfl | hx
      · exact gt (goods_app gs gs.drop) (by omega)
      rcases List.mem_cons.mp hx with rfl | hx
      · exact gt gs.rev (by omega)
      rcases List.mem_cons.mp hx with rfl | hx
      · exact good_lst.mpr (gs.up (by omega) (by omega) (by omega))
      rcases List.mem_cons.mp hx with rfl | hx
      · exact gt (w' := 0) goods_nil (by omega)
      rcases List.mem_cons.mp hx with rfl | hx
      · exact good_none
      rw [List.mem_singleton.mp hx]
      exact gt (goods_app (goods_app gs.take (goods_one good_none)) gs.drop) (by show w + (0 + 1) + w ≤ _; omega)
theorem eqv_tnil {xs : List PyData} : PyData.eqv (.tuple xs) (.tuple []) = xs.isEmpty := by
  cases xs <;> simp [PyData.eqv, PyData.eqvAll]
theorem goods_split {b n w : Nat} {ds : List PyData} {i : Nat} {x y : PyData} (hg : Goods b n w ds) (hx : ds[i]? = some x) (hy : Good b n y.weight y) : Goods b n (w + y.weight - x.weight) (ds.take i ++ [y] ++ ds.drop (i + 1)) ∧ x.weight ≤ w := by
  have hi : i < ds.length := (List.getElem?_eq_some_iff.mp hx).1
  have e : ds.take i ++ [y] ++ ds.drop (i + 1) = ds.set i y := by
    rw [List.set_eq_take_append_cons_drop, if_pos hi, List.append_assoc]
    rfl
  obtain ⟨_, gw⟩ := hg.at hx
  rw [e]
  exact ⟨Goods.set' hy hg hx (by omega), by omega⟩
theorem mutated_ok : ∀ (n : Nat) {s : Rd} {B : Int} {b nd w : Nat} {item : PyData} {Q : DV → List Ob → Prop} {E : EF}, Good b nd w item → nd < n → bb ≤ b → b + 1 < 2 ^ 230 → w ≤ 100000 → nd ≤ 60 → s.V B → B + 4 * n < 900000 →
    (∀ (d : PyData) (s' : Rd), Good (b + 1) (nd + 1) (2 * w + 300) d → s'.V (B + 4 * n) → Q (.dat d) [s'.o]) → wF (fn__law_mutated n) [.own false s.o, .dat item] Q E
  | 0, _, _, _, _, _, _, _, _, _, h, _, _, _, _, _, _, _ => absurd h (Nat.not_lt_zero _)
  | n + 1, s, B, b, nd, w, item, Q, E, hg, hn, hb0, hb, hw, hnd, hv, hB, k => by
    have hsz := sizeBig
    unfold fn__law_mutated
    rw [wF_of]; simp only [entry, List.map_cons, List.map_nil, List.length_cons, List.length_nil, Nat.reduceAdd, Nat.reduceSub, List.replicate_succ, List.replicate_zero, List.cons_append, List.nil_append]
    unfold m__law_mutated
    cases item with
    | dict l => exact absurd hg.o (by intro z; cases z)
    | none =>
      ((try simp only [wS_seq, seqQ_nx, seqQ_rt, seqQ_bk, seqQ_ct, seqQ_exc]); try simp_arith)
      ((try simp only [wS_seq, seqQ_nx, seqQ_rt, seqQ_bk, seqQ_ct, seqQ_exc]); try simp_arith)
      refine replacement_ok (s := s) (B := B) hg hb0 hb hw hv (by omega) fun d s9 gd hv9 => ?_
      ((try simp only [wS_seq, seqQ_nx, seqQ_rt, seqQ_bk, seqQ_ct, seqQ_exc]); try simp_arith)
      exact k d s9 gd (hv9.up (by omega))
    | bool c =>
      ((try simp only [wS_seq, seqQ_nx, seqQ_rt, seqQ_bk, seqQ_ct, seqQ_exc]); try simp_arith)
      ((try simp only [wS_seq, seqQ_nx, seqQ_rt, seqQ_bk, seqQ_ct, seqQ_exc]); try simp_arith)
      refine replacement_ok (s := s) (B := B) hg hb0 hb hw hv (by omega) fun d s9 gd hv9 => ?_
      ((try simp only [wS_seq, seqQ_nx, seqQ_rt, seqQ_bk, seqQ_ct, seqQ_exc]); try simp_arith)
      exact k d s9 gd (hv9.up (by omega))
    | list ds =>
      ((try simp only [wS_seq, seqQ_nx, seqQ_rt, seqQ_bk, seqQ_ct, seqQ_exc]); try simp_arith)
      ((try simp only [wS_seq, seqQ_nx, seqQ_rt, seqQ_bk, seqQ_ct, seqQ_exc]); try simp_arith)
      refine replacement_ok (s := s) (B := B) hg hb0 hb hw hv (by omega) fun d s9 gd hv9 => ?_
      ((try simp only [wS_seq, seqQ_nx, seqQ_rt, seqQ_bk, seqQ_ct, seqQ_exc]); try simp_arith)
      exact k d s9 gd (hv9.up (by omega))
    | int i =>
      ((try simp only [wS_seq, seqQ_nx, seqQ_rt, seqQ_bk, seqQ_ct, seqQ_exc]); try simp_arith)
      ((try simp only [wS_seq, seqQ_nx, seqQ_rt, seqQ_bk, seqQ_ct, seqQ_exc]); try simp_arith)
      refine replacement_ok (s := s) (B := B) hg hb0 hb hw hv (by omega) fun d s9 gd hv9 => ?_
      ((try simp only [wS_seq, seqQ_nx, seqQ_rt, seqQ_bk, seqQ_ct, seqQ_exc]); try simp_arith)
      exact k d s9 gd (hv9.up (by omega))
    | str x =>
      ((try simp only [wS_seq, seqQ_nx, seqQ_rt, seqQ_bk, seqQ_ct, seqQ_exc]); try simp_arith)
      ((try simp only [wS_seq, seqQ_nx, seqQ_rt, seqQ_bk, seqQ_ct, seqQ_exc]); try simp_arith)
      refine replacement_ok (s := s) (B := B) hg hb0 hb hw hv (by omega) fun d s9 gd hv9 => ?_
      ((try simp only [wS_seq, seqQ_nx, seqQ_rt, seqQ_bk, seqQ_ct, seqQ_exc]); try simp_arith)
      exact k d s9 gd (hv9.up (by omega))
    | tuple ds =>
      have fs := (good_fine hg (by omega)).shp
      cases nd with
      | zero => exact absurd hg.dp (Nat.not_succ_le_zero _)
      | succ m =>
        have gs : Goods b m w ds := good_tup.mp hg
        have gl := gs.len
        ((try simp only [wS_seq, seqQ_nx, seqQ_rt, seqQ_bk, seqQ_ct, seqQ_exc]); try simp_arith [eqv_tnil])
        refine ⟨⟨fs.ok (by omega), by decide⟩, ?_⟩
        cases ds with
        | nil =>
          ((try simp only [wS_seq, seqQ_nx, seqQ_rt, seqQ_bk, seqQ_ct, seqQ_exc]); try simp_arith [List.isEmpty_nil])
          ((try simp only [wS_seq, seqQ_nx, seqQ_rt, seqQ_bk, seqQ_ct, seqQ_exc]); try simp_arith)
          refine replacement_ok (s := s) (B := B) hg hb0 hb hw hv (by omega) fun d s9 gd hv9 => ?_
          ((try simp only [wS_seq, seqQ_nx, seqQ_rt, seqQ_bk, seqQ_ct, seqQ_exc]); try simp_arith)
          exact k d s9 gd (hv9.up (by omega))
        | cons y ys =>
          rw [List.length_cons] at gl
          ((try simp only [wS_seq, seqQ_nx, seqQ_rt, seqQ_bk, seqQ_ct, seqQ_exc]); try simp_arith [List.isEmpty_cons])
          refine draw_ok (s := s) (B := B) (by decide) (by decide) hv (by omega) fun v s1 v0 v1 hv1 => ?_
          ((try simp only [wS_seq, seqQ_nx, seqQ_rt, seqQ_bk, seqQ_ct, seqQ_exc]); try simp_arith)
          split
          · ((try simp only [wS_seq, seqQ_nx, seqQ_rt, seqQ_bk, seqQ_ct, seqQ_exc]); try simp_arith)
            refine draw_ok (s := s1) (B := B + 1) (by omega) (by omega) hv1 (by omega) fun v2 s2 w0 w1 hv2 => ?_
            ((try simp only [wS_seq, seqQ_nx, seqQ_rt, seqQ_bk, seqQ_ct, seqQ_exc]); try simp_arith)
            ((try simp only [wS_seq, seqQ_nx, seqQ_rt, seqQ_bk, seqQ_ct, seqQ_exc]); try simp_arith)
            rw [cut_take w0]
            have hix : v2.toNat < (y :: ys).length := by rw [List.length_cons]; omega
            have ex := List.getElem?_eq_getElem hix
            obtain ⟨gx, gw⟩ := gs.at ex
            rw [atI_of w0, ex]
            ((try simp only [wS_seq, seqQ_nx, seqQ_rt, seqQ_bk, seqQ_ct, seqQ_exc]); try simp_arith)
            refine mutated_ok n (s := s2) (B := B + 1 + 1) gx (by omega) hb0 hb (by omega) (by omega) (hv2.up (by omega)) (by omega) fun d s3 gd hv3 => ?_
            ((try simp only [wS_seq, seqQ_nx, seqQ_rt, seqQ_bk, seqQ_ct, seqQ_exc]); try simp_arith)
            rw [cut_from (by omega)]
            refine ⟨by rw [List.length_take]; omega, by rw [List.length_append, List.length_take, List.length_drop, List.length_cons]; simp; omega, ?_⟩
            have gs1 : Goods (b + 1) (m + 1) w (y :: ys) := gs.up (by omega) (by omega) (Nat.le_refl _)
            have z := goods_split (y := d) gs1 ex ⟨gd.o, gd.dp, Nat.le_refl _⟩
            have e1 : (v2 + 1).toNat = v2.toNat + 1 := by omega
            rw [e1]
            refine k _ s3 (good_tup.mpr (z.1.up (Nat.le_refl _) (Nat.le_refl _) ?_)) (hv3.up (by omega))
            have := gd.wt
            omega
          · ((try simp only [wS_seq, seqQ_nx, seqQ_rt, seqQ_bk, seqQ_ct, seqQ_exc]); try simp_arith)
            refine replacement_ok (s := s1) (B := B + 1) hg hb0 hb hw hv1 (by omega) fun d s9 gd hv9 => ?_
            ((try simp only [wS_seq, seqQ_nx, seqQ_rt, seqQ_bk, seqQ_ct, seqQ_exc]); try simp_arith)
            exact k d s9 gd (hv9.up (by omega))
end Lw
namespace Lw
open PySem PySem.Spec PyProof.Rows L2 Dn
/-! ### prices, in plain words -/
abbrev Nice (d : PyData) : Prop := Good (bb + 2) 20 50000 d
theorem bb230 : bb + 2 < 2 ^ 230 := by decide
theorem Nice.fine {d : PyData} (h : Nice d) : Fine 20 50000 d := good_fine h bb230
theorem nice_dict {l : List (PyData × PyData)} (h : Nice (.dict l)) : False := by
  have := h.o
  cases this
theorem Nice.mem {ds : List PyData} {d : PyData} (h : Nice (.tuple ds)) (hd : d ∈ ds) : Nice d := ((good_tup.mp h).mem hd).up (Nat.le_refl _) (by decide) (Nat.le_refl _)
theorem Nice.len {ds : List PyData} (h : Nice (.tuple ds)) : ds.length ≤ 50000 := (good_tup (n := 19).mp h).len
def intB : PyData → Bool
  | .int _ => true
  | _ => false
def noneB : PyData → Bool
  | .none => true
  | _ => false
def tupI (n : Nat) : PyData → Bool
  | .tuple ds => decide (ds.length = n) && ds.all intB
  | _ => false
def fitB : Ev → PyData → Bool
  | .mix _ ps, d => tupI ps.length d
  | .pour _ _ _, d => tupI 2 d
  | .new _ _, d => noneB d
  | .look _ _ _, d => noneB d
def pricesB (evs : List Ev) : PyData → Bool
  | .tuple ds => decide (ds.length = evs.length) && (evs.zip ds).all fun p => fitB p.1 p.2
  | _ => false
theorem is_integer_eq (d : PyData) (h : Nice d) : fn_is_integer [.dat d] = .ok (.dat (.bool (intB d))) [] := by
  refine wF_get ?_
  unfold fn_is_integer
  rw [wF_of]; simp only [entry, List.map_cons, List.map_nil, List.length_cons, List.length_nil, Nat.reduceAdd, Nat.reduceSub, List.replicate_succ, List.replicate_zero, List.cons_append, List.nil_append]
  unfold m_is_integer
  cases d with
  | dict l => exact (nice_dict h).elim
  | _ => ((try simp only [wS_seq, seqQ_nx, seqQ_rt, seqQ_bk, seqQ_ct, seqQ_exc]); try simp_arith); rfl
theorem law_integer_eq (d : PyData) (h : Nice d) : fn__law_is_integer [.dat d] = .ok (.dat (.bool (intB d))) [] := by
  refine wF_get ?_
  unfold fn__law_is_integer
  rw [wF_of]; simp only [entry, List.map_cons, List.map_nil, List.length_cons, List.length_nil, Nat.reduceAdd, Nat.reduceSub, List.replicate_succ, List.replicate_zero, List.cons_append, List.nil_append]
  unfold m__law_is_integer
  cases d with
  | dict l => exact (nice_dict h).elim
  | _ => ((try simp only [wS_seq, seqQ_nx, seqQ_rt, seqQ_bk, seqQ_ct, seqQ_exc]); try simp_arith); rfl
theorem isN_f (d : PyData) (h : Nice d) : isN false d .none = some (.dat (.bool (noneB d))) := by
  cases d with
  | dict l => exact (nice_dict h).elim
  | _ => rfl
theorem isN_t (d : PyData) (h : Nice d) : isN true d .none = some (.dat (.bool (!noneB d))) := by
  cases d with
  | dict l => exact (nice_dict h).elim
  | _ => rfl
def tupB : PyData → Bool
  | .tuple _ => true
  | _ => false
theorem eqv_nat {n k : Nat} : PyData.eqv (.int (n : Int)) (.int (k : Int)) = decide (n = k) := by
  rw [eqv_int]
  exact decide_eq_decide.mpr (by omega)
theorem fits_eq {e : Ev} {d : PyData} (he : e.V) (h : Nice d) : fn_fits_event_form [.dat e.d, .dat d] = .ok (.dat (.bool (fitB e d))) [] := by
  refine wF_get ?_
  unfold fn_fits_event_form
  rw [wF_of]; simp only [entry, List.map_cons, List.map_nil, List.length_cons, List.length_nil, Nat.reduceAdd, Nat.reduceSub, List.replicate_succ, List.replicate_zero, List.cons_append, List.nil_append]
  unfold m_fits_event_form
  have hsz := sizeBig
  cases e with
  | new p m =>
    rw [d_new]
    ((try simp only [wS_seq, seqQ_nx, seqQ_rt, seqQ_bk, seqQ_ct, seqQ_exc]); try simp_arith [List.any_cons, List.any_nil, isN_f d h])
    ((try simp only [wS_seq, seqQ_nx, seqQ_rt, seqQ_bk, seqQ_ct, seqQ_exc]); try simp_arith)
    rfl
  | look w p m =>
    rw [d_look]
    ((try simp only [wS_seq, seqQ_nx, seqQ_rt, seqQ_bk, seqQ_ct, seqQ_exc]); try simp_arith [List.any_cons, List.any_nil, isN_f d h])
    ((try simp only [wS_seq, seqQ_nx, seqQ_rt, seqQ_bk, seqQ_ct, seqQ_exc]); try simp_arith)
    rfl
  | mix w ps =>
    rw [d_mix]
    ((try simp only [wS_seq, seqQ_nx, seqQ_rt, seqQ_bk, seqQ_ct, seqQ_exc]); try simp_arith [List.any_cons, List.any_nil])
    ((try simp only [wS_seq, seqQ_nx, seqQ_rt, seqQ_bk, seqQ_ct, seqQ_exc]); try simp_arith)
    ((try simp only [wS_seq, seqQ_nx, seqQ_rt, seqQ_bk, seqQ_ct, seqQ_exc]); try simp_arith)
    cases d with
    | dict l => exact (nice_dict h).elim
    | tuple ds =>
      have hl := Nice.len h
      have e1 : fitB (Ev.mix w ps) (.tuple ds) = (decide (ds.length = ps.length) && ds.all intB) := rfl
      rw [e1]
      ((try simp only [wS_seq, seqQ_nx, seqQ_rt, seqQ_bk, seqQ_ct, seqQ_exc]); try simp_arith [eqv_int])
      by_cases hk : ds.length = ps.length
      · rw [decide_eq_true (show (ds.length : Int) = (ps.length : Int) by omega), decide_eq_true hk]
        ((try simp only [wS_seq, seqQ_nx, seqQ_rt, seqQ_bk, seqQ_ct, seqQ_exc]); try simp_arith)
        ((try simp only [wS_seq, seqQ_nx, seqQ_rt, seqQ_bk, seqQ_ct, seqQ_exc]); try simp_arith)
        refine ⟨by omega, ?_⟩
        refine lc_dat ds (fun _ => true) (fun d => .bool (intB d)) ?_ ?_
        · intro d hd
          ((try simp only [wS_seq, seqQ_nx, seqQ_rt, seqQ_bk, seqQ_ct, seqQ_exc]); try simp_arith [wF_eq (is_integer_eq d (Nice.mem h hd))])
        · rw [List.filter_eq_self.mpr fun _ _ => rfl]
          ((try simp only [wS_seq, seqQ_nx, seqQ_rt, seqQ_bk, seqQ_ct, seqQ_exc]); try simp_arith [allD_map])
      · rw [decide_eq_false (show ¬ (ds.length : Int) = (ps.length : Int) by omega), decide_eq_false hk]
        ((try simp only [wS_seq, seqQ_nx, seqQ_rt, seqQ_bk, seqQ_ct, seqQ_exc]); try simp_arith)
        ((try simp only [wS_seq, seqQ_nx, seqQ_rt, seqQ_bk, seqQ_ct, seqQ_exc]); try simp_arith)
    | _ => ((try simp only [wS_seq, seqQ_nx, seqQ_rt, seqQ_bk, seqQ_ct, seqQ_exc]); try simp_arith); ((try simp only [wS_seq, seqQ_nx, seqQ_rt, seqQ_bk, seqQ_ct, seqQ_exc]); try simp_arith); ((try simp only [wS_seq, seqQ_nx, seqQ_rt, seqQ_bk, seqQ_ct, seqQ_exc]); try simp_arith); rfl
  | pour w ps c =>
    rw [d_pour]
    ((try simp only [wS_seq, seqQ_nx, seqQ_rt, seqQ_bk, seqQ_ct, seqQ_exc]); try simp_arith [List.any_cons, List.any_nil])
    ((try simp only [wS_seq, seqQ_nx, seqQ_rt, seqQ_bk, seqQ_ct, seqQ_exc]); try simp_arith)
    ((try simp only [wS_seq, seqQ_nx, seqQ_rt, seqQ_bk, seqQ_ct, seqQ_exc]); try simp_arith)
    cases d with
    | dict l => exact (nice_dict h).elim
    | tuple ds =>
      have hl := Nice.len h
      have e1 : fitB (Ev.pour w ps c) (.tuple ds) = (decide (ds.length = 2) && ds.all intB) := rfl
      rw [e1]
      ((try simp only [wS_seq, seqQ_nx, seqQ_rt, seqQ_bk, seqQ_ct, seqQ_exc]); try simp_arith [eqv_int])
      by_cases hk : ds.length = 2
      · rw [decide_eq_true (show (ds.length : Int) = 2 by omega), decide_eq_true hk]
        ((try simp only [wS_seq, seqQ_nx, seqQ_rt, seqQ_bk, seqQ_ct, seqQ_exc]); try simp_arith)
        ((try simp only [wS_seq, seqQ_nx, seqQ_rt, seqQ_bk, seqQ_ct, seqQ_exc]); try simp_arith)
        refine ⟨by omega, ?_⟩
        refine lc_dat ds (fun _ => true) (fun d => .bool (intB d)) ?_ ?_
        · intro d hd
          ((try simp only [wS_seq, seqQ_nx, seqQ_rt, seqQ_bk, seqQ_ct, seqQ_exc]); try simp_arith [wF_eq (is_integer_eq d (Nice.mem h hd))])
        · rw [List.filter_eq_self.mpr fun _ _ => rfl]
          ((try simp only [wS_seq, seqQ_nx, seqQ_rt, seqQ_bk, seqQ_ct, seqQ_exc]); try simp_arith [allD_map])
      · rw [decide_eq_false (show ¬ (ds.length : Int) = 2 by omega), decide_eq_false hk]
        ((try simp only [wS_seq, seqQ_nx, seqQ_rt, seqQ_bk, seqQ_ct, seqQ_exc]); try simp_arith)
        ((try simp only [wS_seq, seqQ_nx, seqQ_rt, seqQ_bk, seqQ_ct, seqQ_exc]); try simp_arith)
    | _ => ((try simp only [wS_seq, seqQ_nx, seqQ_rt, seqQ_bk, seqQ_ct, seqQ_exc]); try simp_arith); ((try simp only [wS_seq, seqQ_nx, seqQ_rt, seqQ_bk, seqQ_ct, seqQ_exc]); try simp_arith); ((try simp only [wS_seq, seqQ_nx, seqQ_rt, seqQ_bk, seqQ_ct, seqQ_exc]); try simp_arith); rfl
end Lw
namespace Lw
open PySem PySem.Spec PyProof.Rows L2 Dn
theorem zip_evs (evs : List Ev) (ds : List PyData) : zipL (evs.map Ev.d) ds = (evs.zip ds).map fun p => PyData.tuple [p.1.d, p.2] := by
  rw [zipL_zip, List.zip_map_left, List.map_map]
  rfl
theorem prices_eq {h : Hist} {d : PyData} (hh : h.V) (hd : Nice d) : fn_are_prices [.dat h.d, .dat d] = .ok (.dat (.bool (pricesB h.events d))) [] := by
  refine wF_get ?_
  unfold fn_are_prices Hist.d
  rw [wF_of]; simp only [entry, List.map_cons, List.map_nil, List.length_cons, List.length_nil, Nat.reduceAdd, Nat.reduceSub, List.replicate_succ, List.replicate_zero, List.cons_append, List.nil_append]
  unfold m_are_prices
  have hsz := sizeBig
  have hel := hh.el
  cases d with
  | dict l => exact (nice_dict hd).elim
  | tuple ds =>
    have hl := Nice.len hd
    have e1 : pricesB h.events (.tuple ds) = (decide (ds.length = h.events.length) && (h.events.zip ds).all fun p => fitB p.1 p.2) := rfl
    rw [e1]
    ((try simp only [wS_seq, seqQ_nx, seqQ_rt, seqQ_bk, seqQ_ct, seqQ_exc]); try simp_arith)
    ((try simp only [wS_seq, seqQ_nx, seqQ_rt, seqQ_bk, seqQ_ct, seqQ_exc]); try simp_arith [eqv_nat])
    by_cases hk : ds.length = h.events.length
    · rw [decide_eq_true hk]
      ((try simp only [wS_seq, seqQ_nx, seqQ_rt, seqQ_bk, seqQ_ct, seqQ_exc]); try simp_arith)
      ((try simp only [wS_seq, seqQ_nx, seqQ_rt, seqQ_bk, seqQ_ct, seqQ_exc]); try simp_arith)
      rw [zip_evs]
      refine ⟨by rw [List.length_map, List.length_zip]; omega, ?_⟩
      refine lc_map (g := fun p : Ev × PyData => PyData.tuple [p.1.d, p.2]) (h.events.zip ds) (fun _ => true) (fun p => .bool (fitB p.1 p.2)) ?_ ?_
      · rintro ⟨e, d⟩ hp
        have hp := List.of_mem_zip hp
        ((try simp only [wS_seq, seqQ_nx, seqQ_rt, seqQ_bk, seqQ_ct, seqQ_exc]); try simp_arith [wF_eq (fits_eq (hh.e e hp.1) (Nice.mem hd hp.2))])
      · rw [List.filter_eq_self.mpr fun _ _ => rfl]
        ((try simp only [wS_seq, seqQ_nx, seqQ_rt, seqQ_bk, seqQ_ct, seqQ_exc]); try simp_arith [allD_map])
    · rw [decide_eq_false hk]
      ((try simp only [wS_seq, seqQ_nx, seqQ_rt, seqQ_bk, seqQ_ct, seqQ_exc]); try simp_arith)
      ((try simp only [wS_seq, seqQ_nx, seqQ_rt, seqQ_bk, seqQ_ct, seqQ_exc]); try simp_arith)
  | _ => ((try simp only [wS_seq, seqQ_nx, seqQ_rt, seqQ_bk, seqQ_ct, seqQ_exc]); try simp_arith); ((try simp only [wS_seq, seqQ_nx, seqQ_rt, seqQ_bk, seqQ_ct, seqQ_exc]); try simp_arith); ((try simp only [wS_seq, seqQ_nx, seqQ_rt, seqQ_bk, seqQ_ct, seqQ_exc]); try simp_arith); rfl
theorem zip_all {evs : List Ev} {ds : List PyData} (h : ∀ (i : Nat) (e : Ev) (d : PyData), evs[i]? = some e → ds[i]? = some d → fitB e d = true) : ((evs.zip ds).all fun p => fitB p.1 p.2) = true := by
  refine List.all_eq_true.mpr fun p hp => ?_
  obtain ⟨i, hi, e⟩ := List.getElem_of_mem hp
  have e2 : (evs.zip ds)[i]? = some p := by rw [List.getElem?_eq_getElem hi, e]
  obtain ⟨z1, z2⟩ := List.getElem?_zip_eq_some.mp e2
  exact h i p.1 p.2 z1 z2
theorem zip_none {evs : List Ev} {ds : List PyData} {i : Nat} {e : Ev} {d : PyData} (h1 : evs[i]? = some e) (h2 : ds[i]? = some d) (h : fitB e d = false) : ((evs.zip ds).all fun p => fitB p.1 p.2) = false := by
  refine Bool.eq_false_iff.mpr fun z => ?_
  have e2 : (evs.zip ds)[i]? = some (e, d) := List.getElem?_zip_eq_some.mpr ⟨h1, h2⟩
  have := List.all_eq_true.mp z (e, d) (List.mem_of_getElem? e2)
  rw [h] at this
  cases this
theorem rates_eq {h : Hist} {d : PyData} (hh : h.V) (hd : Nice d) : fn__law_are_rates [.dat h.d, .dat d] = .ok (.dat (.bool (pricesB h.events d))) [] := by
  refine wF_get ?_
  unfold fn__law_are_rates Hist.d
  rw [wF_of]; simp only [entry, List.map_cons, List.map_nil, List.length_cons, List.length_nil, Nat.reduceAdd, Nat.reduceSub, List.replicate_succ, List.replicate_zero, List.cons_append, List.nil_append]
  unfold m__law_are_rates
  have hsz := sizeBig
  have hel := hh.el
  cases d with
  | dict l => exact (nice_dict hd).elim
  | tuple ds =>
    have hl := Nice.len hd
    have e1 : pricesB h.events (.tuple ds) = (decide (ds.length = h.events.length) && (h.events.zip ds).all fun p => fitB p.1 p.2) := rfl
    rw [e1]
    ((try simp only [wS_seq, seqQ_nx, seqQ_rt, seqQ_bk, seqQ_ct, seqQ_exc]); try simp_arith [eqv_nat])
    by_cases hk : ds.length = h.events.length
    · rw [decide_eq_true hk]
      ((try simp only [wS_seq, seqQ_nx, seqQ_rt, seqQ_bk, seqQ_ct, seqQ_exc]); try simp_arith)
      ((try simp only [wS_seq, seqQ_nx, seqQ_rt, seqQ_bk, seqQ_ct, seqQ_exc]); try simp_arith)
      rw [enumL_map]
      refine for_map (fun pre r => ∃ z1 z2 z3, r = [some (.dat (.tuple [.tuple (h.start.map stD), .tuple (h.events.map Ev.d)])), some (.dat (.tuple ds)), z1, z2, z3, none] ∧ ∀ i, i < pre.length → ∀ (e : Ev) (d : PyData), h.events[i]? = some e → ds[i]? = some d → fitB e d = true) (en 0 h.events)
        ⟨_, _, _, rfl, fun i hi => absurd hi (Nat.not_lt_zero _)⟩ ?_ ?_
      · rintro r ⟨z1, z2, z3, rfl, hf⟩
        rw [en_len] at hf
        ((try simp only [wS_seq, seqQ_nx, seqQ_rt, seqQ_bk, seqQ_ct, seqQ_exc]); try simp_arith)
        refine (zip_all fun i e d h1 h2 => hf i ?_ e d h1 h2).symm
        exact (List.getElem?_eq_some_iff.mp h1).1
      · rintro pre ⟨kk, e⟩ post r hpre ⟨z1, z2, z3, rfl, hf⟩
        obtain ⟨y1, y2⟩ := en_at h.events 0 pre post (kk, e) hpre
        dsimp only at y1 y2
        rw [Nat.zero_add] at y1
        subst y1
        have hpl : pre.length < ds.length := by rw [hk]; exact (List.getElem?_eq_some_iff.mp y2).1
        have ed := List.getElem?_eq_getElem hpl
        have nd : Nice ds[pre.length] := Nice.mem hd (List.getElem_mem _)
        have he := hh.e e (List.mem_of_getElem? y2)
        generalize ds[pre.length] = d at ed nd
        have fail : fitB e d = false → ((h.events.zip ds).all fun p => fitB p.1 p.2) = false := zip_none y2 ed
        have more : fitB e d = true → ∀ i, i < (pre ++ [(pre.length, e)]).length → ∀ (e : Ev) (d : PyData), h.events[i]? = some e → ds[i]? = some d → fitB e d = true := fun hfit i hi e' d' h1 h2 => by
          rw [List.length_append, List.length_singleton] at hi
          by_cases hi2 : i < pre.length
          · exact hf i hi2 e' d' h1 h2
          · have : i = pre.length := by omega
            subst this
            rw [y2] at h1
            rw [ed] at h2
            cases h1
            cases h2
            exact hfit
        cases e with
        | new p m =>
          rw [d_new]
          ((try simp only [wS_seq, seqQ_nx, seqQ_rt, seqQ_bk, seqQ_ct, seqQ_exc]); try simp_arith)
          ((try simp only [wS_seq, seqQ_nx, seqQ_rt, seqQ_bk, seqQ_ct, seqQ_exc]); try simp_arith [eqv_int])
          ((try simp only [wS_seq, seqQ_nx, seqQ_rt, seqQ_bk, seqQ_ct, seqQ_exc]); try simp_arith [ed, isN_t d nd])
          cases hn : noneB d with
          | false =>
            ((try simp only [wS_seq, seqQ_nx, seqQ_rt, seqQ_bk, seqQ_ct, seqQ_exc]); try simp_arith)
            ((try simp only [wS_seq, seqQ_nx, seqQ_rt, seqQ_bk, seqQ_ct, seqQ_exc]); try simp_arith)
            exact (fail hn).symm
          | true =>
            ((try simp only [wS_seq, seqQ_nx, seqQ_rt, seqQ_bk, seqQ_ct, seqQ_exc]); try simp_arith)
            ((try simp only [wS_seq, seqQ_nx, seqQ_rt, seqQ_bk, seqQ_ct, seqQ_exc]); try simp_arith)
            ((try simp only [wS_seq, seqQ_nx, seqQ_rt, seqQ_bk, seqQ_ct, seqQ_exc]); try simp_arith)
            ((try simp only [wS_seq, seqQ_nx, seqQ_rt, seqQ_bk, seqQ_ct, seqQ_exc]); try simp_arith)
            exact ⟨_, _, _, rfl, more hn⟩
        | look w p m =>
          rw [d_look]
          ((try simp only [wS_seq, seqQ_nx, seqQ_rt, seqQ_bk, seqQ_ct, seqQ_exc]); try simp_arith)
          ((try simp only [wS_seq, seqQ_nx, seqQ_rt, seqQ_bk, seqQ_ct, seqQ_exc]); try simp_arith [eqv_int])
          ((try simp only [wS_seq, seqQ_nx, seqQ_rt, seqQ_bk, seqQ_ct, seqQ_exc]); try simp_arith [ed, isN_t d nd])
          cases hn : noneB d with
          | false =>
            ((try simp only [wS_seq, seqQ_nx, seqQ_rt, seqQ_bk, seqQ_ct, seqQ_exc]); try simp_arith)
            ((try simp only [wS_seq, seqQ_nx, seqQ_rt, seqQ_bk, seqQ_ct, seqQ_exc]); try simp_arith)
            exact (fail hn).symm
          | true =>
            ((try simp only [wS_seq, seqQ_nx, seqQ_rt, seqQ_bk, seqQ_ct, seqQ_exc]); try simp_arith)
            ((try simp only [wS_seq, seqQ_nx, seqQ_rt, seqQ_bk, seqQ_ct, seqQ_exc]); try simp_arith)
            ((try simp only [wS_seq, seqQ_nx, seqQ_rt, seqQ_bk, seqQ_ct, seqQ_exc]); try simp_arith)
            ((try simp only [wS_seq, seqQ_nx, seqQ_rt, seqQ_bk, seqQ_ct, seqQ_exc]); try simp_arith)
            exact ⟨_, _, _, rfl, more hn⟩
        | mix w ps =>
          have pl := he.2.2
          rw [d_mix]
          ((try simp only [wS_seq, seqQ_nx, seqQ_rt, seqQ_bk, seqQ_ct, seqQ_exc]); try simp_arith)
          have z1 : decide ((ps.length : Int) = (0 : Int)) = false := decide_eq_false (by omega)
          have z2 : decide ((0 : Int) < (ps.length : Int)) = true := decide_eq_true (by omega)
          ((try simp only [wS_seq, seqQ_nx, seqQ_rt, seqQ_bk, seqQ_ct, seqQ_exc]); try simp_arith [eqv_int, z1])
          ((try simp only [wS_seq, seqQ_nx, seqQ_rt, seqQ_bk, seqQ_ct, seqQ_exc]); try simp_arith)
          ((try simp only [wS_seq, seqQ_nx, seqQ_rt, seqQ_bk, seqQ_ct, seqQ_exc]); try simp_arith [ed, z2])
          cases d with
          | dict l => exact (nice_dict nd).elim
          | tuple es =>
            have hes := Nice.len nd
            ((try simp only [wS_seq, seqQ_nx, seqQ_rt, seqQ_bk, seqQ_ct, seqQ_exc]); try simp_arith [eqv_int])
            by_cases hq : es.length = ps.length
            · rw [decide_eq_true (show (es.length : Int) = (ps.length : Int) by omega)]
              ((try simp only [wS_seq, seqQ_nx, seqQ_rt, seqQ_bk, seqQ_ct, seqQ_exc]); try simp_arith)
              ((try simp only [wS_seq, seqQ_nx, seqQ_rt, seqQ_bk, seqQ_ct, seqQ_exc]); try simp_arith)
              ((try simp only [wS_seq, seqQ_nx, seqQ_rt, seqQ_bk, seqQ_ct, seqQ_exc]); try simp_arith [ed, z2])
              refine ⟨by omega, ?_⟩
              refine lc_dat es (fun d => !intB d) (fun d => d) ?_ ?_
              · intro d hd
                ((try simp only [wS_seq, seqQ_nx, seqQ_rt, seqQ_bk, seqQ_ct, seqQ_exc]); try simp_arith [wF_eq (law_integer_eq d (Nice.mem nd hd))])
              · have hsh : SeqAt.shaped (.list ((es.filter fun d => !intB d).map fun d => d)) = true := (shp_list (n := 20) fun y hy => by
                  obtain ⟨c, hc, rfl⟩ := List.mem_map.mp hy
                  exact (Nice.fine (Nice.mem nd (List.mem_filter.mp hc).1)).shp).ok
                ((try simp only [wS_seq, seqQ_nx, seqQ_rt, seqQ_bk, seqQ_ct, seqQ_exc]); try simp_arith)
                refine ⟨⟨hsh, by decide⟩, ?_⟩
                rw [eqv_nil, List.isEmpty_map, filter_nil (q := intB) fun _ _ => rfl]
                cases hn : es.all intB with
                | false =>
                  ((try simp only [wS_seq, seqQ_nx, seqQ_rt, seqQ_bk, seqQ_ct, seqQ_exc]); try simp_arith)
                  exact (fail (by show (decide (es.length = ps.length) && es.all intB) = false; rw [hn, Bool.and_false])).symm
                | true =>
                  ((try simp only [wS_seq, seqQ_nx, seqQ_rt, seqQ_bk, seqQ_ct, seqQ_exc]); try simp_arith)
                  exact ⟨_, _, _, rfl, more (by show (decide (es.length = ps.length) && es.all intB) = true; rw [hn, decide_eq_true hq]; rfl)⟩
            · rw [decide_eq_false (show ¬ (es.length : Int) = (ps.length : Int) by omega)]
              ((try simp only [wS_seq, seqQ_nx, seqQ_rt, seqQ_bk, seqQ_ct, seqQ_exc]); try simp_arith)
              ((try simp only [wS_seq, seqQ_nx, seqQ_rt, seqQ_bk, seqQ_ct, seqQ_exc]); try simp_arith)
              exact (fail (by show (decide (es.length = ps.length) && es.all intB) = false; rw [decide_eq_false hq]; rfl)).symm
          | _ =>
            ((try simp only [wS_seq, seqQ_nx, seqQ_rt, seqQ_bk, seqQ_ct, seqQ_exc]); try simp_arith)
            ((try simp only [wS_seq, seqQ_nx, seqQ_rt, seqQ_bk, seqQ_ct, seqQ_exc]); try simp_arith)
            exact (fail rfl).symm
        | pour w ps c =>
          rw [d_pour]
          ((try simp only [wS_seq, seqQ_nx, seqQ_rt, seqQ_bk, seqQ_ct, seqQ_exc]); try simp_arith)
          have z1 : decide ((2 : Int) = (0 : Int)) = false := decide_eq_false (by omega)
          have z2 : decide ((0 : Int) < (2 : Int)) = true := decide_eq_true (by omega)
          ((try simp only [wS_seq, seqQ_nx, seqQ_rt, seqQ_bk, seqQ_ct, seqQ_exc]); try simp_arith [eqv_int, z1])
          ((try simp only [wS_seq, seqQ_nx, seqQ_rt, seqQ_bk, seqQ_ct, seqQ_exc]); try simp_arith)
          ((try simp only [wS_seq, seqQ_nx, seqQ_rt, seqQ_bk, seqQ_ct, seqQ_exc]); try simp_arith [ed, z2])
          cases d with
          | dict l => exact (nice_dict nd).elim
          | tuple es =>
            have hes := Nice.len nd
            ((try simp only [wS_seq, seqQ_nx, seqQ_rt, seqQ_bk, seqQ_ct, seqQ_exc]); try simp_arith [eqv_int])
            by_cases hq : es.length = 2
            · rw [decide_eq_true (show (es.length : Int) = (2 : Int) by omega)]
              ((try simp only [wS_seq, seqQ_nx, seqQ_rt, seqQ_bk, seqQ_ct, seqQ_exc]); try simp_arith)
              ((try simp only [wS_seq, seqQ_nx, seqQ_rt, seqQ_bk, seqQ_ct, seqQ_exc]); try simp_arith)
              ((try simp only [wS_seq, seqQ_nx, seqQ_rt, seqQ_bk, seqQ_ct, seqQ_exc]); try simp_arith [ed, z2])
              refine ⟨by omega, ?_⟩
              refine lc_dat es (fun d => !intB d) (fun d => d) ?_ ?_
              · intro d hd
                ((try simp only [wS_seq, seqQ_nx, seqQ_rt, seqQ_bk, seqQ_ct, seqQ_exc]); try simp_arith [wF_eq (law_integer_eq d (Nice.mem nd hd))])
              · have hsh : SeqAt.shaped (.list ((es.filter fun d => !intB d).map fun d => d)) = true := (shp_list (n := 20) fun y hy => by
                  obtain ⟨c, hc, rfl⟩ := List.mem_map.mp hy
                  exact (Nice.fine (Nice.mem nd (List.mem_filter.mp hc).1)).shp).ok
                ((try simp only [wS_seq, seqQ_nx, seqQ_rt, seqQ_bk, seqQ_ct, seqQ_exc]); try simp_arith)
                refine ⟨⟨hsh, by decide⟩, ?_⟩
                rw [eqv_nil, List.isEmpty_map, filter_nil (q := intB) fun _ _ => rfl]
                cases hn : es.all intB with
                | false =>
                  ((try simp only [wS_seq, seqQ_nx, seqQ_rt, seqQ_bk, seqQ_ct, seqQ_exc]); try simp_arith)
                  exact (fail (by show (decide (es.length = 2) && es.all intB) = false; rw [hn, Bool.and_false])).symm
                | true =>
                  ((try simp only [wS_seq, seqQ_nx, seqQ_rt, seqQ_bk, seqQ_ct, seqQ_exc]); try simp_arith)
                  exact ⟨_, _, _, rfl, more (by show (decide (es.length = 2) && es.all intB) = true; rw [hn, decide_eq_true hq]; rfl)⟩
            · rw [decide_eq_false (show ¬ (es.length : Int) = (2 : Int) by omega)]
              ((try simp only [wS_seq, seqQ_nx, seqQ_rt, seqQ_bk, seqQ_ct, seqQ_exc]); try simp_arith)
              ((try simp only [wS_seq, seqQ_nx, seqQ_rt, seqQ_bk, seqQ_ct, seqQ_exc]); try simp_arith)
              exact (fail (by show (decide (es.length = 2) && es.all intB) = false; rw [decide_eq_false hq]; rfl)).symm
          | _ =>
            ((try simp only [wS_seq, seqQ_nx, seqQ_rt, seqQ_bk, seqQ_ct, seqQ_exc]); try simp_arith)
            ((try simp only [wS_seq, seqQ_nx, seqQ_rt, seqQ_bk, seqQ_ct, seqQ_exc]); try simp_arith)
            exact (fail rfl).symm
    · rw [decide_eq_false hk]
      ((try simp only [wS_seq, seqQ_nx, seqQ_rt, seqQ_bk, seqQ_ct, seqQ_exc]); try simp_arith)
      ((try simp only [wS_seq, seqQ_nx, seqQ_rt, seqQ_bk, seqQ_ct, seqQ_exc]); try simp_arith)
  | _ => ((try simp only [wS_seq, seqQ_nx, seqQ_rt, seqQ_bk, seqQ_ct, seqQ_exc]); try simp_arith); ((try simp only [wS_seq, seqQ_nx, seqQ_rt, seqQ_bk, seqQ_ct, seqQ_exc]); try simp_arith); rfl
end Lw
namespace Lw
open PySem PySem.Spec PyProof.Rows L2 Dn
/-! ### level prices -/
def isMix : Ev → Bool
  | .mix _ _ => true
  | _ => false
theorem mix_eq (e : Ev) : ∃ rest, e.d = .tuple (.str (match e with | .mix _ _ => "mix" | .new _ _ => "new" | .look _ _ _ => "look" | .pour _ _ _ => "pour") :: rest) ∧ PyData.eqv (.str (match e with | .mix _ _ => "mix" | .new _ _ => "new" | .look _ _ _ => "look" | .pour _ _ _ => "pour")) (.str "mix") = isMix e := by
  cases e with
  | mix w ps => exact ⟨_, rfl, eqv_mix_mix⟩
  | new p m => exact ⟨_, rfl, eqv_new_mix⟩
  | look w p m => exact ⟨_, rfl, eqv_look_mix⟩
  | pour w ps c => exact ⟨_, rfl, eqv_pour_mix⟩
def nset (d : PyData) : Nat := match setKs d with
  | some ks => (dedupK ks).length
  | none => 0
theorem ints_of : ∀ {ds : List PyData}, ds.all intB = true → ∃ ns : List Int, ds = ns.map .int
  | [], _ => ⟨[], rfl⟩
  | d :: ds, h => by
    rw [List.all_cons] at h
    obtain ⟨h1, h2⟩ := Bool.and_eq_true_iff.mp h
    obtain ⟨ns, rfl⟩ := ints_of h2
    cases d <;> try (cases h1; done)
    rename_i i
    exact ⟨i :: ns, rfl⟩
theorem nset_ok {e : Ev} {d : PyData} (he : e.V) (hm : isMix e = true) (hf : fitB e d = true) : ∃ ks, setKs d = some ks ∧ 1 ≤ (dedupK ks).length ∧ nset d = (dedupK ks).length := by
  cases e with
  | mix w ps =>
    have l1 := he.2.1.l
    have l2 := he.2.2
    cases d with
    | tuple ds =>
      obtain ⟨h1, h2⟩ := Bool.and_eq_true_iff.mp (show (decide (ds.length = ps.length) && ds.all intB) = true from hf)
      have h1 := of_decide_eq_true h1
      obtain ⟨ns, rfl⟩ := ints_of h2
      rw [List.length_map] at h1
      have e1 := setKs_ints (ns := ns) (d := .tuple (ns.map .int)) (by omega) (.inr rfl)
      refine ⟨_, e1, ?_, by unfold nset; rw [e1]⟩
      cases ns with
      | nil => simp at h1; omega
      | cons i ns =>
        have hm : (Sum.inl i : Key) ∈ dedupK ((i :: ns).map Sum.inl) := (dedup_mem _).mpr (by simp)
        exact List.length_pos_of_mem hm
    | _ => cases hf
  | _ => cases hm
def levelB (evs : List Ev) (ds : List PyData) : Bool := ((evs.zip ds).filter fun p => isMix p.1).all fun p => PyData.eqv (.int (nset p.2)) (.int 1)
structure Fits (evs : List Ev) (ds : List PyData) : Prop where
  l : ds.length = evs.length
  f : ∀ p, p ∈ evs.zip ds → fitB p.1 p.2 = true
theorem fits_of {evs : List Ev} {ds : List PyData} (h : pricesB evs (.tuple ds) = true) : Fits evs ds := by
  obtain ⟨h1, h2⟩ := Bool.and_eq_true_iff.mp (show (decide (ds.length = evs.length) && (evs.zip ds).all fun p => fitB p.1 p.2) = true from h)
  exact ⟨of_decide_eq_true h1, List.all_eq_true.mp h2⟩
theorem level_eq {h : Hist} {ds : List PyData} (hh : h.V) (hd : Nice (.tuple ds)) (hf : Fits h.events ds) : fn_are_level [.dat h.d, .dat (.tuple ds)] = .ok (.dat (.bool (levelB h.events ds))) [] := by
  refine wF_get ?_
  unfold fn_are_level Hist.d
  rw [wF_of]; simp only [entry, List.map_cons, List.map_nil, List.length_cons, List.length_nil, Nat.reduceAdd, Nat.reduceSub, List.replicate_succ, List.replicate_zero, List.cons_append, List.nil_append]
  unfold m_are_level
  have hsz := sizeBig
  have hel := hh.el
  ((try simp only [wS_seq, seqQ_nx, seqQ_rt, seqQ_bk, seqQ_ct, seqQ_exc]); try simp_arith)
  ((try simp only [wS_seq, seqQ_nx, seqQ_rt, seqQ_bk, seqQ_ct, seqQ_exc]); try simp_arith)
  rw [zip_evs]
  refine ⟨by rw [List.length_map, List.length_zip]; omega, ?_⟩
  refine lc_map (g := fun p : Ev × PyData => PyData.tuple [p.1.d, p.2]) (h.events.zip ds) (fun p => isMix p.1) (fun p => .bool (PyData.eqv (.int (nset p.2)) (.int 1))) ?_ ?_
  · rintro ⟨e, d⟩ hp
    have hf1 := hf.f _ hp
    have hp := List.of_mem_zip hp
    obtain ⟨rest, e1, e2⟩ := mix_eq e
    dsimp only
    rw [e1]
    ((try simp only [wS_seq, seqQ_nx, seqQ_rt, seqQ_bk, seqQ_ct, seqQ_exc]); try simp_arith [e2])
    cases hm : isMix e with
    | false => ((try simp only [wS_seq, seqQ_nx, seqQ_rt, seqQ_bk, seqQ_ct, seqQ_exc]); try simp_arith)
    | true =>
      obtain ⟨ks, k1, k2, k3⟩ := nset_ok (hh.e e hp.1) hm hf1
      ((try simp only [wS_seq, seqQ_nx, seqQ_rt, seqQ_bk, seqQ_ct, seqQ_exc]); try simp_arith [k1, k3])
  · ((try simp only [wS_seq, seqQ_nx, seqQ_rt, seqQ_bk, seqQ_ct, seqQ_exc]); try simp_arith [allD_map])
    rfl
theorem flat_eq {h : Hist} {ds : List PyData} (hh : h.V) (hd : Nice (.tuple ds)) (hf : Fits h.events ds) : fn__law_are_flat [.dat h.d, .dat (.tuple ds)] = .ok (.dat (.bool (levelB h.events ds))) [] := by
  refine wF_get ?_
  unfold fn__law_are_flat Hist.d
  rw [wF_of]; simp only [entry, List.map_cons, List.map_nil, List.length_cons, List.length_nil, Nat.reduceAdd, Nat.reduceSub, List.replicate_succ, List.replicate_zero, List.cons_append, List.nil_append]
  unfold m__law_are_flat
  have hsz := sizeBig
  have hel := hh.el
  ((try simp only [wS_seq, seqQ_nx, seqQ_rt, seqQ_bk, seqQ_ct, seqQ_exc]); try simp_arith)
  rw [enumL_map]
  refine ⟨by rw [List.length_map, en_len]; omega, ?_⟩
  refine lc_map (g := fun p : Nat × Ev => PyData.tuple [.int ((p.1 : Nat) : Int), p.2.d]) (en 0 h.events) (fun p => isMix p.2 && decide (1 < nset (ds.getD p.1 .none))) (fun p => .int ((p.1 : Nat) : Int)) ?_ ?_
  · rintro ⟨kk, e⟩ hp
    obtain ⟨pre, post, hpre⟩ := List.append_of_mem hp
    obtain ⟨y1, y2⟩ := en_at h.events 0 pre post (kk, e) hpre
    dsimp only at y1 y2
    rw [Nat.zero_add] at y1
    subst y1
    have hpl : pre.length < ds.length := by rw [hf.l]; exact (List.getElem?_eq_some_iff.mp y2).1
    have ed := List.getElem?_eq_getElem hpl
    obtain ⟨rest, e1, e2⟩ := mix_eq e
    have eg : ds.getD pre.length .none = ds[pre.length] := by rw [List.getD_eq_getElem?_getD, ed]; rfl
    have hz : (e, ds[pre.length]) ∈ h.events.zip ds := List.mem_of_getElem? (List.getElem?_zip_eq_some.mpr ⟨y2, ed⟩)
    dsimp only
    rw [e1, eg]
    ((try simp only [wS_seq, seqQ_nx, seqQ_rt, seqQ_bk, seqQ_ct, seqQ_exc]); try simp_arith [e2])
    cases hm : isMix e with
    | false => ((try simp only [wS_seq, seqQ_nx, seqQ_rt, seqQ_bk, seqQ_ct, seqQ_exc]); try simp_arith)
    | true =>
      obtain ⟨ks, k1, k2, k3⟩ := nset_ok (hh.e e (List.mem_of_getElem? y2)) hm (hf.f _ hz)
      ((try simp only [wS_seq, seqQ_nx, seqQ_rt, seqQ_bk, seqQ_ct, seqQ_exc]); try simp_arith [ed, k1, k3])
      exact decide_eq_decide.mpr (by omega)
  · have hsh : SeqAt.shaped (.list (((en 0 h.events).filter fun p => isMix p.2 && decide (1 < nset (ds.getD p.1 .none))).map fun p => PyData.int ((p.1 : Nat) : Int))) = true := (shp_list (n := 0) fun y hy => by
      obtain ⟨c, hc, rfl⟩ := List.mem_map.mp hy
      exact shp_int _).ok
    ((try simp only [wS_seq, seqQ_nx, seqQ_rt, seqQ_bk, seqQ_ct, seqQ_exc]); try simp_arith)
    refine ⟨⟨hsh, by decide⟩, ?_⟩
    rw [eqv_nil, List.isEmpty_map, filter_nil (p := fun p : Nat × Ev => isMix p.2 && decide (1 < nset (ds.getD p.1 .none))) (q := fun p : Nat × Ev => !(isMix p.2 && decide (1 < nset (ds.getD p.1 .none)))) fun _ _ => (Bool.not_not _).symm]
    unfold levelB
    refine Bool.eq_iff_iff.mpr ⟨fun z => ?_, fun z => ?_⟩
    · refine List.all_eq_true.mpr fun p hp => ?_
      obtain ⟨hp, hm⟩ := List.mem_filter.mp hp
      obtain ⟨i, hi, e⟩ := List.getElem_of_mem hp
      have e2 : (h.events.zip ds)[i]? = some p := by rw [List.getElem?_eq_getElem hi, e]
      obtain ⟨z1, z2⟩ := List.getElem?_zip_eq_some.mp e2
      have hin : (i, p.1) ∈ en 0 h.events := by have y := en_mem h.events 0 i p.1 z1; rwa [Nat.zero_add] at y
      have zz := List.all_eq_true.mp z (i, p.1) hin
      obtain ⟨ks, k1, k2, k3⟩ := nset_ok (hh.e p.1 (List.mem_of_getElem? z1)) hm (hf.f p hp)
      have eg : ds.getD i .none = p.2 := by rw [List.getD_eq_getElem?_getD, z2]; rfl
      dsimp only at zz
      rw [eg, hm, Bool.true_and] at zz
      have zz : ¬ 1 < nset p.2 := by
        intro y
        rw [decide_eq_true y] at zz
        cases zz
      rw [eqv_int]
      exact decide_eq_true (by omega)
    · refine List.all_eq_true.mpr fun p hp => ?_
      obtain ⟨pre, post, hpre⟩ := List.append_of_mem hp
      obtain ⟨y1, y2⟩ := en_at h.events 0 pre post p hpre
      rw [Nat.zero_add] at y1
      have hpl : pre.length < ds.length := by rw [hf.l]; exact (List.getElem?_eq_some_iff.mp y2).1
      have ed := List.getElem?_eq_getElem hpl
      have hz : (p.2, ds[pre.length]) ∈ h.events.zip ds := List.mem_of_getElem? (List.getElem?_zip_eq_some.mpr ⟨y2, ed⟩)
      have eg : ds.getD p.1 .none = ds[pre.length] := by rw [y1, List.getD_eq_getElem?_getD, ed]; rfl
      rw [eg]
      cases hm : isMix p.2 with
      | false => rfl
      | true =>
        have zz := List.all_eq_true.mp z _ (List.mem_filter.mpr ⟨hz, hm⟩)
        dsimp only at zz
        rw [eqv_int] at zz
        have zz := of_decide_eq_true zz
        rw [decide_eq_false (by omega)]
        rfl
end Lw
namespace Lw
open PySem PySem.Spec PyProof.Rows L2 Dn
theorem eqv_sself (x : Str) : PyData.eqv (.str x) (.str x) = true := by rw [eqv_ss]; exact beq_self_eq_true x
theorem f2 (a b : Bool) : Fine 1 7 (.list [.bool a, .bool b]) := (fine_lst (fineL_cons (a := 0) (fine_bool a) (fineL_cons (a := 0) (fine_bool b) (fineL_nil (w := 0) (n := 0))))).up
theorem agrees_eq {h : Hist} {d : PyData} (hh : h.V) (hd : Nice d) : fn__law_agrees [.dat h.d, .dat d] = .ok (.dat (.bool true)) [] := by
  refine wF_get ?_
  unfold fn__law_agrees
  rw [wF_of]; simp only [entry, List.map_cons, List.map_nil, List.length_cons, List.length_nil, Nat.reduceAdd, Nat.reduceSub, List.replicate_succ, List.replicate_zero, List.cons_append, List.nil_append]
  unfold m__law_agrees
  have hsz := sizeBig
  have fz : Fine 21 55010 (.tuple [h.d, d]) := (fine_tup (fineL_cons (hh.fine.up (m := 20) (v := 5000)) (fineL_cons hd.fine (fineL_nil (w := 0))))).up
  have e1 := rates_eq hh hd
  have e2 := prices_eq hh hd
  ((try simp only [wS_seq, seqQ_nx, seqQ_rt, seqQ_bk, seqQ_ct, seqQ_exc]); try simp_arith [wF_eq e1])
  refine ⟨fz.show, ?_⟩
  ((try simp only [wS_seq, seqQ_nx, seqQ_rt, seqQ_bk, seqQ_ct, seqQ_exc]); try simp_arith [wF_eq e2])
  have fb := (f2 (pricesB h.events d) (pricesB h.events d)).show
  ((try simp only [wS_seq, seqQ_nx, seqQ_rt, seqQ_bk, seqQ_ct, seqQ_exc]); try simp_arith [wF_eq e2, perm, eqv_sself])
  refine ⟨fb, ?_⟩
  ((try simp only [wS_seq, seqQ_nx, seqQ_rt, seqQ_bk, seqQ_ct, seqQ_exc]); try simp_arith)
  refine ⟨fb, ?_⟩
  ((try simp only [wS_seq, seqQ_nx, seqQ_rt, seqQ_bk, seqQ_ct, seqQ_exc]); try simp_arith)
  cases hp : pricesB h.events d with
  | false =>
    ((try simp only [wS_seq, seqQ_nx, seqQ_rt, seqQ_bk, seqQ_ct, seqQ_exc]); try simp_arith)
    ((try simp only [wS_seq, seqQ_nx, seqQ_rt, seqQ_bk, seqQ_ct, seqQ_exc]); try simp_arith [eqv_sself])
    exact fz.show
  | true =>
    cases d with
    | tuple ds =>
      have hf := fits_of hp
      have e3 := level_eq hh hd hf
      have e4 := flat_eq hh hd hf
      have fl := (f2 (levelB h.events ds) (levelB h.events ds)).show
      ((try simp only [wS_seq, seqQ_nx, seqQ_rt, seqQ_bk, seqQ_ct, seqQ_exc]); try simp_arith)
      ((try simp only [wS_seq, seqQ_nx, seqQ_rt, seqQ_bk, seqQ_ct, seqQ_exc]); try simp_arith [wF_eq e3])
      ((try simp only [wS_seq, seqQ_nx, seqQ_rt, seqQ_bk, seqQ_ct, seqQ_exc]); try simp_arith [wF_eq e3, wF_eq e4, perm, eqv_sself])
      refine ⟨fl, fl, ?_⟩
      show if (!PyData.eqv (.str (PyData.list [PyData.bool (levelB h.events ds), PyData.bool (levelB h.events ds)]).shown) (.str (PyData.list [PyData.bool (levelB h.events ds), PyData.bool (levelB h.events ds)]).shown)) = true then _ else _
      ((try simp only [wS_seq, seqQ_nx, seqQ_rt, seqQ_bk, seqQ_ct, seqQ_exc]); try simp_arith [eqv_sself])
      exact fz.show
    | _ => cases hp
theorem filter_none {A : Type} {p : A → Bool} {l : List A} (h : ∀ a, a ∈ l → p a = false) : l.filter p = [] := List.filter_eq_nil_iff.mpr fun a ha => by rw [h a ha]; decide
theorem law_eq (ns : List Int) : fn_law [.scr ns] = .ok (.dat (.bool true)) [] := by
  refine wF_get ?_
  unfold fn_law
  rw [wF_of]; simp only [entry, List.map_cons, List.map_nil, List.length_cons, List.length_nil, Nat.reduceAdd, Nat.reduceSub, List.replicate_succ, List.replicate_zero, List.cons_append, List.nil_append]
  unfold m_law
  have hsz := sizeBig
  ((try simp only [wS_seq, seqQ_nx, seqQ_rt, seqQ_bk, seqQ_ct, seqQ_exc]); try simp_arith)
  refine feed_ok fun s hv => ?_
  ((try simp only [wS_seq, seqQ_nx, seqQ_rt, seqQ_bk, seqQ_ct, seqQ_exc]); try simp_arith)
  ((try simp only [wS_seq, seqQ_nx, seqQ_rt, seqQ_bk, seqQ_ct, seqQ_exc]); try simp_arith)
  refine ⟨b62 (by decide) (by decide), ?_⟩
  refine for_map (g := fun i : Nat => PyData.int (0 + (i : Int))) (fun pre r => ∃ (s' : Rd) (z2 z3 z4 z5 z6 z7 z8 : Option Sl), r = [some (.scr ns), some (.own true s'.o), z2, z3, z4, z5, z6, z7, z8, none] ∧ s'.V (10000 * pre.length)) (List.range 4)
    ⟨s, _, _, _, _, _, _, _, rfl, hv.up (by simp)⟩ ?_ ?_
  · rintro r ⟨s1, z2, z3, z4, z5, z6, z7, z8, rfl, hv1⟩
    ((try simp only [wS_seq, seqQ_nx, seqQ_rt, seqQ_bk, seqQ_ct, seqQ_exc]); try simp_arith)
  · rintro pre x post r hpre ⟨s1, z2, z3, z4, z5, z6, z7, z8, rfl, hv1⟩
    have hpl : pre.length < 4 := by
      have z := congrArg List.length hpre
      rw [List.length_range, List.length_append, List.length_cons] at z
      omega
    ((try simp only [wS_seq, seqQ_nx, seqQ_rt, seqQ_bk, seqQ_ct, seqQ_exc]); try simp_arith)
    ((try simp only [wS_seq, seqQ_nx, seqQ_rt, seqQ_bk, seqQ_ct, seqQ_exc]); try simp_arith)
    refine case_ok (s := s1) (B := 10000 * pre.length) (by decide) (by decide) hv1 (by omega) fun h s2 hh _ _ _ hv2 => ?_
    have hel := hh.el
    ((try simp only [wS_seq, seqQ_nx, seqQ_rt, seqQ_bk, seqQ_ct, seqQ_exc]); try simp_arith)
    ((try simp only [wS_seq, seqQ_nx, seqQ_rt, seqQ_bk, seqQ_ct, seqQ_exc]); try simp_arith)
    refine for_list (fun pr r => ∃ (s' : Rd) (z4 z5 z6 z7 z8 : Option Sl), r = [some (.scr ns), some (.own true s'.o), some (.dat (.int (0 + (x : Int)))), some (.dat h.d), z4, z5, z6, z7, z8, none] ∧ s'.V (10000 * pre.length + 2000 + 3000 * pr.length)) [.bool true, .bool false]
      ⟨s2, _, _, _, _, _, rfl, hv2.up (by simp)⟩ ?_ ?_
    · rintro r ⟨s3, z4, z5, z6, z7, z8, rfl, hv3⟩
      ((try simp only [wS_seq, seqQ_nx, seqQ_rt, seqQ_bk, seqQ_ct, seqQ_exc]); try simp_arith)
      exact ⟨s3, _, _, _, _, _, _, _, rfl, hv3.up (by simp; omega)⟩
    · rintro pr y po r hpr ⟨s3, z4, z5, z6, z7, z8, rfl, hv3⟩
      have hpl2 : pr.length < 2 := by
        have z := congrArg List.length hpr
        simp at z
        omega
      have hy : ∃ fl : Bool, y = .bool fl := by
        have hm : y ∈ [PyData.bool true, PyData.bool false] := by rw [hpr]; simp
        rcases List.mem_cons.mp hm with rfl | hm
        · exact ⟨_, rfl⟩
        · rw [List.mem_singleton.mp hm]; exact ⟨_, rfl⟩
      obtain ⟨fl, rfl⟩ := hy
      ((try simp only [wS_seq, seqQ_nx, seqQ_rt, seqQ_bk, seqQ_ct, seqQ_exc]); try simp_arith)
      ((try simp only [wS_seq, seqQ_nx, seqQ_rt, seqQ_bk, seqQ_ct, seqQ_exc]); try simp_arith)
      refine rates_ok (s := s3) (B := 10000 * pre.length + 2000 + 3000 * pr.length) hh hv3 (by omega) fun rs s4 rl rg hv4 => ?_
      have gr : Good bb 2 1000 (.tuple rs) := good_tup.mpr ((goods_all rg).up (by decide) (Nat.le_refl _) (by omega))
      ((try simp only [wS_seq, seqQ_nx, seqQ_rt, seqQ_bk, seqQ_ct, seqQ_exc]); try simp_arith)
      ((try simp only [wS_seq, seqQ_nx, seqQ_rt, seqQ_bk, seqQ_ct, seqQ_exc]); try simp_arith)
      refine variants_ok (by omega) rg fun items il ig => ?_
      ((try simp only [wS_seq, seqQ_nx, seqQ_rt, seqQ_bk, seqQ_ct, seqQ_exc]); try simp_arith)
      ((try simp only [wS_seq, seqQ_nx, seqQ_rt, seqQ_bk, seqQ_ct, seqQ_exc]); try simp_arith)
      refine ⟨b62 (by decide) (by decide), ?_⟩
      refine for_map (g := fun i : Nat => PyData.int (0 + (i : Int))) (fun q r => ∃ (s' : Rd) (its : List PyData) (z7 z8 : Option Sl), r = [some (.scr ns), some (.own true s'.o), some (.dat (.int (0 + (x : Int)))), some (.dat h.d), some (.dat (.bool fl)), some (.dat (.tuple rs)), some (.dat (.list its)), z7, z8, none] ∧ s'.V (10000 * pre.length + 2300 + 3000 * pr.length + 100 * q.length) ∧ its.length ≤ 200 + 2 * q.length ∧ ∀ d, d ∈ its → Nice d) (List.range 8)
        ⟨s4, items, _, _, rfl, hv4.up (by simp; omega), by simpa using il, fun d hd => (ig d hd).up (by decide) (by decide) (by decide)⟩ ?_ ?_
      · rintro r ⟨s5, its, z7, z8, rfl, hv5, l5, n5⟩
        rw [List.length_range] at hv5 l5
        ((try simp only [wS_seq, seqQ_nx, seqQ_rt, seqQ_bk, seqQ_ct, seqQ_exc]); try simp_arith)
        refine ⟨by omega, ?_⟩
        refine lc_dat its (fun _ => false) (fun d => d) ?_ ?_
        · intro d hd
          ((try simp only [wS_seq, seqQ_nx, seqQ_rt, seqQ_bk, seqQ_ct, seqQ_exc]); try simp_arith [wF_eq (agrees_eq hh (n5 d hd))])
        · rw [filter_none fun _ _ => rfl]
          ((try simp only [wS_seq, seqQ_nx, seqQ_rt, seqQ_bk, seqQ_ct, seqQ_exc]); try simp_arith [eqv_nil])
          refine ⟨⟨by decide, by decide⟩, ?_⟩
          show if (!(([] : List PyData).map fun d => d).isEmpty) = true then _ else _
          ((try simp only [wS_seq, seqQ_nx, seqQ_rt, seqQ_bk, seqQ_ct, seqQ_exc]); try simp_arith [List.map_nil, List.isEmpty_nil])
          exact ⟨s5, _, _, _, _, _, rfl, hv5.up (by simp; omega)⟩
      · rintro q j qo r hq ⟨s5, its, z7, z8, rfl, hv5, l5, n5⟩
        have hql : q.length < 8 := by
          have z := congrArg List.length hq
          rw [List.length_range, List.length_append, List.length_cons] at z
          omega
        ((try simp only [wS_seq, seqQ_nx, seqQ_rt, seqQ_bk, seqQ_ct, seqQ_exc]); try simp_arith)
        ((try simp only [wS_seq, seqQ_nx, seqQ_rt, seqQ_bk, seqQ_ct, seqQ_exc]); try simp_arith)
        refine mutated_ok 12 (s := s5) (B := 10000 * pre.length + 2300 + 3000 * pr.length + 100 * q.length) gr (by decide) (Nat.le_refl _) (by decide) (by decide) (by decide) hv5 (by omega) fun d s6 gd hv6 => ?_
        ((try simp only [wS_seq, seqQ_nx, seqQ_rt, seqQ_bk, seqQ_ct, seqQ_exc]); try simp_arith)
        ((try simp only [wS_seq, seqQ_nx, seqQ_rt, seqQ_bk, seqQ_ct, seqQ_exc]); try simp_arith)
        refine mutated_ok 12 (s := s6) (B := 10000 * pre.length + 2300 + 3000 * pr.length + 100 * q.length + 4 * 12) gd (by decide) (by decide) (by decide) (by decide) (by decide) hv6 (by omega) fun d2 s7 gd2 hv7 => ?_
        ((try simp only [wS_seq, seqQ_nx, seqQ_rt, seqQ_bk, seqQ_ct, seqQ_exc]); try simp_arith)
        refine ⟨by omega, ?_⟩
        refine ⟨s7, its ++ [d, d2], _, _, rfl, hv7.up (by simp; omega), by simp; omega, fun d' h' => ?_⟩
        rcases List.mem_append.mp h' with h | h
        · exact n5 d' h
        rcases List.mem_cons.mp h with rfl | h
        · exact gd.up (by decide) (by decide) (by decide)
        · rw [List.mem_singleton.mp h]; exact gd2.up (by decide) (by decide) (by decide)
end Lw
namespace Lw
open PySem PySem.Spec PyProof.Rows L2 Dn
def fnH : List He.DefD := [⟨("_law_feed", none), "_law_feed", "_law_feed", defArgs (top 7), defBody (top 7), defScope (top 7), [], []⟩, ⟨("_law_draw", none), "_law_draw", "_law_draw", defArgs (top 8), defBody (top 8), defScope (top 8), [], []⟩, ⟨("_law_start", none), "_law_start", "_law_start", defArgs (top 10), defBody (top 10), defScope (top 10), [], []⟩, ⟨("_law_some_places", none), "_law_some_places", "_law_some_places", defArgs (top 11), defBody (top 11), defScope (top 11), [], []⟩, ⟨("_law_shuffled", none), "_law_shuffled", "_law_shuffled", defArgs (top 12), defBody (top 12), defScope (top 12), [], []⟩, ⟨("_law_choice", none), "_law_choice", "_law_choice", defArgs (top 9), defBody (top 9), defScope (top 9), [], []⟩, ⟨("_law_event", none), "_law_event", "_law_event", defArgs (top 13), defBody (top 13), defScope (top 13), [], []⟩, ⟨("_law_case", none), "_law_case", "_law_case", defArgs (top 14), defBody (top 14), defScope (top 14), [], []⟩, ⟨("_law_rates", none), "_law_rates", "_law_rates", defArgs (top 15), defBody (top 15), defScope (top 15), [], []⟩, ⟨("_law_variants", none), "_law_variants", "_law_variants", defArgs (top 21), defBody (top 21), defScope (top 21), [], []⟩, ⟨("_law_replacement", none), "_law_replacement", "_law_replacement", defArgs (top 19), defBody (top 19), defScope (top 19), [], []⟩, ⟨("_law_mutated", none), "_law_mutated", "_law_mutated", defArgs (top 20), defBody (top 20), defScope (top 20), [], []⟩, ⟨("_law_is_integer", none), "_law_is_integer", "_law_is_integer", defArgs (top 16), defBody (top 16), defScope (top 16), [], []⟩, ⟨("_law_are_rates", none), "_law_are_rates", "_law_are_rates", defArgs (top 17), defBody (top 17), defScope (top 17), [], []⟩, ⟨("is_integer", none), "is_integer", "is_integer", defArgs (top 1), defBody (top 1), defScope (top 1), [], []⟩, ⟨("fits_event_form", none), "fits_event_form", "fits_event_form", defArgs (top 3), defBody (top 3), defScope (top 3), [], []⟩, ⟨("are_prices", none), "are_prices", "are_prices", defArgs (top 4), defBody (top 4), defScope (top 4), [], []⟩, ⟨("are_level", none), "are_level", "are_level", defArgs (top 5), defBody (top 5), defScope (top 5), [], []⟩, ⟨("_law_are_flat", none), "_law_are_flat", "_law_are_flat", defArgs (top 18), defBody (top 18), defScope (top 18), [], []⟩, ⟨("_law_agrees", none), "_law_agrees", "_law_agrees", defArgs (top 22), defBody (top 22), defScope (top 22), [], []⟩, ⟨("law", none), "law", "law", defArgs (top 23), defBody (top 23), defScope (top 23), [], []⟩]
def faH : List He.Fa := [.glo "_law_feed", .glo "_law_draw", .glo "_law_start", .glo "_law_some_places", .glo "_law_shuffled", .glo "_law_choice", .glo "_law_event", .glo "_law_case", .glo "_law_rates", .glo "_law_variants", .glo "_law_replacement", .glo "_law_mutated", .glo "_law_is_integer", .glo "_law_are_rates", .glo "is_integer", .glo "fits_event_form", .glo "are_prices", .glo "are_level", .glo "_law_are_flat", .glo "_law_agrees", .glo "law", .free "len", .free "repr", .free "sorted", .free "tuple", .free "list", .free "int", .free "any", .free "all", .free "min", .free "max", .free "sum", .free "abs", .free "range", .free "enumerate", .free "zip", .free "set", .free "isinstance", .free "dict", .free "str", .free "bool"]
def tsH : List He.Tab := []
def exH (K : PySem.W.Frag) : Bool := true
def looseH : List PySem.Str := ["is_integer", "fits_event_form", "are_prices", "are_level", "_law_feed", "_law_draw", "_law_choice", "_law_start", "_law_some_places", "_law_shuffled", "_law_event", "_law_case", "_law_rates", "_law_is_integer", "_law_are_rates", "_law_are_flat", "_law_replacement", "_law_mutated", "_law_variants", "_law_agrees"]
abbrev RH : PySem.W.OpenRow := PySem.W.OpenLaw.row PySem.Challenge.rw_mixedbags_k17_prices_by_kind
abbrev hkH : PySem.W.Hook := hookY 4 faH fnH tsH exH
def obH (s : PySem.W.SharedT) : AlY := obsY 4 faH fnH tsH exH (HandSHeadRun.getT s)
theorem obH_eq (s : PySem.W.SharedT) : obH s = hkH.obs s.abs := obsY_eq (HandSHeadRun.getT_eq s)
theorem runH (w : World) : HandSHeadRun.RunEq RH (PySem.W.view RH.prog [23]) hkH obH 4000 looseH w := by
  have h : ∀ b : Bool, HandSHeadRun.RunEq RH (PySem.W.view RH.prog [23]) hkH obH 4000 looseH (w.withFollow "special-get-raises" b) := by
    intro b os
    cases b
    · kernel_rfl
    · kernel_rfl
  have z := h (w.params.followText "special-get-raises")
  rw [World.withFollow_self] at z
  exact z
theorem fxH {w : World} {K : PySem.W.Frag} {h : Heap} {mg : Str → Option Value} (X : K.In h) (G : h.Ns mainGlobals mg) (c : SaysY faH fnH tsH exH w K) : Fx w K mg where
  fr := ⟨He.free_ok X G (c.t.d.fact 21 (f := .free "len") rfl), He.free_ok X G (c.t.d.fact 22 (f := .free "repr") rfl), He.free_ok X G (c.t.d.fact 23 (f := .free "sorted") rfl), He.free_ok X G (c.t.d.fact 24 (f := .free "tuple") rfl), He.free_ok X G (c.t.d.fact 25 (f := .free "list") rfl), He.free_ok X G (c.t.d.fact 26 (f := .free "int") rfl), He.free_ok X G (c.t.d.fact 27 (f := .free "any") rfl), He.free_ok X G (c.t.d.fact 28 (f := .free "all") rfl), He.free_ok X G (c.t.d.fact 29 (f := .free "min") rfl), He.free_ok X G (c.t.d.fact 30 (f := .free "max") rfl), He.free_ok X G (c.t.d.fact 31 (f := .free "sum") rfl), He.free_ok X G (c.t.d.fact 32 (f := .free "abs") rfl), He.free_ok X G (c.t.d.fact 33 (f := .free "range") rfl), He.free_ok X G (c.t.d.fact 34 (f := .free "enumerate") rfl), He.free_ok X G (c.t.d.fact 35 (f := .free "zip") rfl), He.free_ok X G (c.t.d.fact 36 (f := .free "set") rfl), He.free_ok X G (c.t.d.fact 37 (f := .free "isinstance") rfl), He.free_ok X G (c.t.d.fact 38 (f := .free "dict") rfl), He.free_ok X G (c.t.d.fact 39 (f := .free "str") rfl), He.free_ok X G (c.t.d.fact 40 (f := .free "bool") rfl)⟩
  g__law_feed := He.glo_ok X G (c.t.d.fact 0 (f := .glo "_law_feed") rfl)
  d__law_feed := c.t.d.def_ 0 rfl
  g__law_draw := He.glo_ok X G (c.t.d.fact 1 (f := .glo "_law_draw") rfl)
  d__law_draw := c.t.d.def_ 1 rfl
  g__law_start := He.glo_ok X G (c.t.d.fact 2 (f := .glo "_law_start") rfl)
  d__law_start := c.t.d.def_ 2 rfl
  g__law_some_places := He.glo_ok X G (c.t.d.fact 3 (f := .glo "_law_some_places") rfl)
  d__law_some_places := c.t.d.def_ 3 rfl
  g__law_shuffled := He.glo_ok X G (c.t.d.fact 4 (f := .glo "_law_shuffled") rfl)
  d__law_shuffled := c.t.d.def_ 4 rfl
  g__law_choice := He.glo_ok X G (c.t.d.fact 5 (f := .glo "_law_choice") rfl)
  d__law_choice := c.t.d.def_ 5 rfl
  g__law_event := He.glo_ok X G (c.t.d.fact 6 (f := .glo "_law_event") rfl)
  d__law_event := c.t.d.def_ 6 rfl
  g__law_case := He.glo_ok X G (c.t.d.fact 7 (f := .glo "_law_case") rfl)
  d__law_case := c.t.d.def_ 7 rfl
  g__law_rates := He.glo_ok X G (c.t.d.fact 8 (f := .glo "_law_rates") rfl)
  d__law_rates := c.t.d.def_ 8 rfl
  g__law_variants := He.glo_ok X G (c.t.d.fact 9 (f := .glo "_law_variants") rfl)
  d__law_variants := c.t.d.def_ 9 rfl
  g__law_replacement := He.glo_ok X G (c.t.d.fact 10 (f := .glo "_law_replacement") rfl)
  d__law_replacement := c.t.d.def_ 10 rfl
  g__law_mutated := He.glo_ok X G (c.t.d.fact 11 (f := .glo "_law_mutated") rfl)
  d__law_mutated := c.t.d.def_ 11 rfl
  g__law_is_integer := He.glo_ok X G (c.t.d.fact 12 (f := .glo "_law_is_integer") rfl)
  d__law_is_integer := c.t.d.def_ 12 rfl
  g__law_are_rates := He.glo_ok X G (c.t.d.fact 13 (f := .glo "_law_are_rates") rfl)
  d__law_are_rates := c.t.d.def_ 13 rfl
  g_is_integer := He.glo_ok X G (c.t.d.fact 14 (f := .glo "is_integer") rfl)
  d_is_integer := c.t.d.def_ 14 rfl
  g_fits_event_form := He.glo_ok X G (c.t.d.fact 15 (f := .glo "fits_event_form") rfl)
  d_fits_event_form := c.t.d.def_ 15 rfl
  g_are_prices := He.glo_ok X G (c.t.d.fact 16 (f := .glo "are_prices") rfl)
  d_are_prices := c.t.d.def_ 16 rfl
  g_are_level := He.glo_ok X G (c.t.d.fact 17 (f := .glo "are_level") rfl)
  d_are_level := c.t.d.def_ 17 rfl
  g__law_are_flat := He.glo_ok X G (c.t.d.fact 18 (f := .glo "_law_are_flat") rfl)
  d__law_are_flat := c.t.d.def_ 18 rfl
  g__law_agrees := He.glo_ok X G (c.t.d.fact 19 (f := .glo "_law_agrees") rfl)
  d__law_agrees := c.t.d.def_ 19 rfl
  g_law := He.glo_ok X G (c.t.d.fact 20 (f := .glo "law") rfl)
  d_law := c.t.d.def_ 20 rfl
end Lw
open PySem PySem.W PySem.Calls PyProof.Rows
theorem PySem.Challenge.cw_mixedbags_k17_prices_by_kind_holds : PySem.Challenge.rw_mixedbags_k17_prices_by_kind.Holds := by
  w_on; o_law
  refine HandSHeadRun.head_any (r := OpenLaw.row PySem.Challenge.rw_mixedbags_k17_prices_by_kind) (q := view (OpenLaw.row PySem.Challenge.rw_mixedbags_k17_prices_by_kind).prog [23]) (H := Lw.hkH) (ob := Lw.obH) (M := 4000) (loose := Lw.looseH) (d := HandSHeadRun.topDef (OpenLaw.row PySem.Challenge.rw_mixedbags_k17_prices_by_kind).prog 23) (kwd := []) Lw.obH_eq
    (by kernel_rfl) (fun s => by kernel_rfl) Lw.runH (by kernel_rfl) (by kernel_rfl) (by kernel_rfl) (by rfl) (by first | assumption | decide +kernel) (by decide +kernel) ⟨rfl, rfl, rfl, rfl, rfl, by decide +kernel⟩ ?hw ?hc
  case hw => w_witness2
  case hc =>
    refine Dn.walk_go (l := PySem.Challenge.rw_mixedbags_k17_prices_by_kind) (n := 63) (k := 17) (x := "_law_script") (φ := Lw.fn_law) rfl (by decide) (by kernel_rfl) ⟨rfl, by decide, by decide⟩ (fun ns _ => Lw.law_eq ns) ?F
    intro w mg h Y G
    obtain ⟨K, KX, c⟩ := Y
    have fx := Lw.fxH KX G c
    have en : (HandSHeadRun.topDef (OpenLaw.row PySem.Challenge.rw_mixedbags_k17_prices_by_kind).prog 23).name = ("law" : PySem.Str) := by kernel_rfl
    obtain ⟨fd, F⟩ := fx.d_law
    have b := L2.FunD.bindsA (ps := ["_law_script"]) F fun _ _ _ _ _ _ us hl => match us, hl with | [_], _ => rfl
    refine ⟨K, KX, He.fAd K ("law", none), fd, ?_, fun s v => b s [v] rfl, fun base _ _ => ?_⟩
    · rw [en]
      exact fx.g_law
    · obtain ⟨f2, fd2, h1, h2, _, h4⟩ := (Lw.has_law (P := (PySem.Challenge.rw_mixedbags_k17_prices_by_kind).prog) (w := w) (base := base) fx).ex
      have e1 := h1.symm.trans fx.g_law
      cases e1
      rw [Dn.funD_one F h2]
      exact h4
