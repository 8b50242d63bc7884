/- AN EVALUATOR OF THE MODEL OF Go, PROVED SOUND, PART 3: what it says of a call holds in every world, on every tape. Conditions: none of its own; each theorem bears its premises. -/
import Derived.Test.YtijkeeoabcoidaaGreatDoorOEv2
import Derived.Below
import Derived.ChangeSame
import Derived.Lib.Bytealg
import Derived.Maps.RangeRun
import Derived.Orders
import Derived.RangeFuncIn
import Derived.RangeFuncRecord
import Derived.TacticsIn
noncomputable section
set_option linter.unusedSimpArgs false
set_option linter.unusedVariables false
namespace Go.Ev
set_option linter.unusedVariables false
section
variable {P:Program} {ρ:Env} {B N:Nat} {o:Oper} {cf:CF} {t:Regs} {h:Heap} {n:K4}
theorem Nn {ct:Call} {b:Builtin} {args:List Opd} {k:AK} (ho:o.op = .call ct) (hb:ct.callee = .builtin b) (ha:BB N ct.args.toList=some args) (hk:EK P b ct.argTypes args=some k) (hsort:k.sort≤1):Bo P ρ B N o (H6 k cf t h n) t h n:=by
 have two:∀ {x y:Opd},args=[x,y]->∃ x0 y0,ct.args.toList=[x0,y0]∧AY N x0=some x∧AY N y0=some y:=fun {x y} e=>by
  subst e
  cases hl:ct.args.toList with
  | nil=>rw [hl] at ha; simp [BB] at ha
  | cons x0 l =>
   rw [hl] at ha
   simp only [BB] at ha
   split at ha
   ·rename_i x1 xs1 h1 h2
    cases ha
    cases l with
    | nil=>simp [BB] at h2
    | cons y0 l =>
     simp only [BB] at h2
     split at h2
     ·rename_i y1 ys1 h3 h4
      cases h2
      cases l with
      | nil=>exact ⟨x0,y0,rfl,h1,h3⟩
      | cons z l =>
       simp only [BB] at h4
       split at h4 <;> cases h4
     ·cases h2
   ·cases ha
 have one:∀ {x:Opd} {l:List Opd},args=x::l->∃ x0 l0,ct.args.toList=x0::l0∧AY N x0=some x:=fun {x l} e=>by
  subst e
  cases hl:ct.args.toList with
  | nil=>rw [hl] at ha; simp [BB] at ha
  | cons x0 l0 =>
   rw [hl] at ha
   simp only [BB] at ha
   split at ha
   ·rename_i x1 xs1 h1 h2
    cases ha
    exact ⟨x0,l0,rfl,h1⟩
   ·cases ha
 unfold EK at hk
 split at hk
 ·-- len
  rename_i ty ts x l hts
  obtain ⟨x0,l0,hl,hx⟩:=one rfl
  split at hk
  ·cases hk; exact LQ (cf:=cf) ho hb hts hl hx (by assumption)
  ·cases hk; exact Lq (cf:=cf) ho hb hts hl hx (by assumption)
  ·cases hk; exact Lx (cf:=cf) ho hb hts hl hx (by assumption)
  ·cases hk
 ·obtain ⟨x0,y0,hl,hx,hy⟩:=two rfl
  cases hk; exact LS (cf:=cf) ho hb hl hx hy
 ·obtain ⟨x0,y0,hl,hx,hy⟩:=two rfl
  cases hk; exact Mo (cf:=cf) ho hb hl hx hy
 ·obtain ⟨x0,y0,z0,hl,hx,hy,hz⟩:=Gt ha
  cases hk; exact Ko (cf:=cf) ho hb hl hx hy hz
 ·rename_i ty u x y hts
  obtain ⟨x0,y0,hl,hx,hy⟩:=two rfl
  split at hk
  ·rename_i e ku ht hu
   split at hk
   ·rename_i s b z h1 h2 h3
    obtain ⟨hc,rfl⟩:=Br hk
    simp only [Bool.and_eq_true,beq_iff_eq,decide_eq_true_eq] at hc
    exact absurd hsort (by simp [AK.sort])
   ·cases hk
  ·rename_i e d hd ht hu
   split at hk
   ·rename_i s b z h1 h2 h3
    obtain ⟨hc,rfl⟩:=Br hk
    simp only [Bool.and_eq_true,beq_iff_eq,decide_eq_true_eq] at hc
    exact absurd hsort (by simp [AK.sort])
   ·cases hk
  ·cases hk
 ·rename_i ty ts x y hts
  obtain ⟨x0,y0,hl,hx,hy⟩:=two rfl
  split at hk
  ·rename_i e ht
   split at hk
   ·rename_i s h1
    obtain ⟨hc,rfl⟩:=Br hk
    exact absurd hsort (by simp [AK.sort])
   ·cases hk
  ·cases hk
 ·rename_i ty ts m k' hts
  obtain ⟨x0,y0,hl,hx,hy⟩:=two rfl
  split at hk
  ·rename_i kt e ht
   obtain ⟨pl,hp,rfl⟩:=Aw hk
   exact absurd hsort (by simp [AK.sort])
  ·cases hk
 ·rename_i ty ts x l hts
  obtain ⟨x0,l0,hl,hx⟩:=one rfl
  split at hk
  ·cases hk; exact Mt (cf:=cf) ho hb hts hl hx (by assumption)
  ·cases hk
 ·rename_i ty ts x l hts
  obtain ⟨x0,l0,hl,hx⟩:=one rfl
  split at hk
  ·rename_i e ht
   split at hk
   ·rename_i s z h1 h2
    obtain ⟨hc,rfl⟩:=Br hk
    exact absurd hsort (by simp [AK.sort])
   ·cases hk
  ·cases hk
 ·cases hk
theorem LP (hρ:Bq ρ) {k:AK} (hk:Fa P N o=some k) (hsort:k.sort≤1):Bo P ρ B N o (H6 k cf t h n) t h n:=by
 unfold Fa at hk
 split at hk
 ·rename_i x ho
  obtain ⟨x',hx,rfl⟩:=Aw hk
  exact In (cf:=cf) (.inl ho) hx
 ·rename_i x ho
  obtain ⟨x',hx,rfl⟩:=Aw hk
  exact In (cf:=cf) (.inr ho) hx
 ·rename_i c a b ho
  split at hk
  ·cases hk; exact KG (cf:=cf) ho (by assumption) (by assumption) (by assumption)
  ·cases hk
 ·rename_i e ho
  obtain ⟨z,hz,rfl⟩:=Aw hk
  exact absurd hsort (by simp [AK.sort])
 ·rename_i e x ho
  obtain ⟨x',hx,rfl⟩:=Aw hk
  exact absurd hsort (by simp [AK.sort])
 ·rename_i ty parts ho
  split at hk
  ·rename_i fs z hu hz
   obtain ⟨places,hpl,hk⟩:=BM hk
   obtain ⟨ps,hps,rfl⟩:=Aw hk
   exact F5 (cf:=cf) hρ ho hz hps fun it zv hi hzv l=>by unfold Program.built; simp only [hi,hu,hzv,hpl]
  ·rename_i m e z hu hz
   obtain ⟨s,hs,hk⟩:=BM hk
   obtain ⟨ps,hps,rfl⟩:=Aw hk
   refine F5 (cf:=cf) hρ ho hz hps fun it zv hi hzv l=>?_
   unfold Program.built
   unfold Bw at hs
   cases hie:P.info? e with
   | none=>rw [hie] at hs; cases hs
   | some ie=>rw [hie] at hs; cases hs; simp only [hi,hu,hzv,hie]
  ·cases hk
 ·rename_i ty len parts ho
  split at hk
  ·rename_i e hu
   split at hk
   ·rename_i s z hs hz
    split at hk
    ·rename_i hc
     obtain ⟨ps,hps,rfl⟩:=Aw hk
     simp only [Bool.and_eq_true,beq_iff_eq,decide_eq_true_eq] at hc
     exact absurd hsort (by simp [AK.sort])
    ·cases hk
   ·cases hk
  ·cases hk
 ·rename_i ty a ho
  split at hk
  ·cases hk; exact LW (cf:=cf) ho (by assumption) (by assumption) (by assumption)
  ·cases hk; exact NK (cf:=cf) ho (by assumption) (by assumption)
  ·cases hk
 ·rename_i ty a x ho
  split at hk
  ·cases hk; exact absurd hsort (by simp [AK.sort])
  ·cases hk
 ·rename_i x ho
  obtain ⟨x',hx,rfl⟩:=Aw hk
  exact Jj (cf:=cf) ho hx
 ·rename_i op ty x y yt ho
  split at hk
  ·rename_i a b ha hb
   split at hk
   ·cases hk; exact CD (cf:=cf) ho ha hb
   ·cases hk; exact CD (cf:=cf) ho ha hb
   ·cases hk; exact CD (cf:=cf) ho ha hb
   ·cases hk; exact CD (cf:=cf) ho ha hb
   ·split at hk
    ·cases hk
    ·rename_i hgd
     obtain ⟨pl,hp,rfl⟩:=Aw hk
     exact HY (cf:=cf) (neg:=false) ho ha hb hp (by simpa using hgd)
   ·split at hk
    ·cases hk
    ·rename_i hgd
     obtain ⟨pl,hp,rfl⟩:=Aw hk
     exact HY (cf:=cf) (neg:=true) ho ha hb hp (by simpa using hgd)
   ·cases hk; exact CD (cf:=cf) ho ha hb
  ·cases hk
 ·rename_i op ty x ho
  split at hk
  ·cases hk; exact M4 (cf:=cf) ho (by assumption)
  ·cases hk; exact LM (cf:=cf) ho (by assumption)
  ·cases hk; exact Md (cf:=cf) ho (by assumption)
  ·cases hk
 ·rename_i src dst x ho
  split at hk
  ·cases hk; exact Lv (cf:=cf) ho (by assumption) (by assumption) (by assumption)
  ·cases hk; exact LX (cf:=cf) ho (by assumption) (by assumption) (by assumption)
  ·rename_i e x' hs hd hx
   obtain ⟨hc,rfl⟩:=Br hk
   exact absurd hsort (by simp [AK.sort])
  ·rename_i e x' hs hd hx
   obtain ⟨hc,rfl⟩:=Br hk
   exact LF (cf:=cf) ho hx hs hd (Kr hc)
  ·rename_i e' e x' hs hd hx
   obtain ⟨hc,rfl⟩:=Br hk
   simp only [Bool.and_eq_true] at hc
   exact absurd hsort (by simp [AK.sort])
  ·cases hk
 ·rename_i fn first caps ho
  split at hk
  ·rename_i f l hf hl
   cases hk
   have:first = #[]:=by cases first; simp_all
   subst this
   exact Kt (cf:=cf) ho hl
  ·cases hk
 ·cases hk; exact absurd hsort (by simp [AK.sort])
 ·rename_i ty l c ho
  split at hk
  ·rename_i e l' c' hu hl hc
   split at hk
   ·rename_i s b z h1 h2 h3
    obtain ⟨hcc,rfl⟩:=Br hk
    simp only [Bool.and_eq_true,beq_iff_eq,decide_eq_true_eq] at hcc
    exact absurd hsort (by simp [AK.sort])
   ·cases hk
  ·cases hk
 ·rename_i ty x lo hi ho
  split at hk
  ·cases hk; exact LG (cf:=cf) ho (by assumption) (by assumption) (by assumption) (by assumption)
  ·obtain ⟨s,hs,rfl⟩:=Aw hk
   exact Mn (cf:=cf) ho (by assumption) (by assumption) (by assumption) (by assumption) hs
  ·obtain ⟨s,hs,rfl⟩:=Aw hk
   exact Mr (cf:=cf) ho (by assumption) (by assumption) (by assumption) (by assumption) hs
  ·cases hk
 ·rename_i s x f ho
  split at hk
  ·rename_i fs x' hs hx
   obtain ⟨fd,hf,hk⟩:=BM hk
   split at hk
   ·rename_i sz hsz
    cases hk; exact LJ (cf:=cf) ho hx hs hf hsz
   ·cases hk
  ·cases hk
 ·rename_i s x f ho
  split at hk
  ·rename_i fs x' hs hx
   obtain ⟨fd,hf,hk⟩:=BM hk
   split at hk
   ·cases hk; exact M8 (cf:=cf) ho hx hs hf (by assumption) (by assumption)
   ·cases hk
  ·cases hk
 ·rename_i ty x i ho
  split at hk
  ·obtain ⟨s,hs,rfl⟩:=Aw hk
   exact MG (cf:=cf) ho (by assumption) (by assumption) (by assumption) hs
  ·obtain ⟨s,hs,rfl⟩:=Aw hk
   exact My (cf:=cf) ho (by assumption) (by assumption) (by assumption) hs
  ·cases hk
 ·rename_i ty x i ho
  split at hk
  ·cases hk; exact LE (cf:=cf) ho (by assumption) (by assumption) (by assumption)
  ·split at hk
   ·cases hk; exact LO (cf:=cf) ho (by assumption) (by assumption) (by assumption) (by assumption) (by assumption)
   ·cases hk
  ·cases hk
 ·rename_i ty m k' ok ho
  split at hk
  ·rename_i kt e m' k'' ht hm hk'
   split at hk
   ·rename_i pl z hp hz
    obtain ⟨zz,hzz,rfl⟩:=Aw hk
    exact OH (cf:=cf) ho hm hk' ht hp hz hzz
   ·cases hk
  ·cases hk
 ·rename_i ty m k' v ho
  split at hk
  ·rename_i kt e m' k'' v' ht hm hk' hv
   obtain ⟨pl,hp,rfl⟩:=Aw hk
   exact absurd hsort (by simp [AK.sort])
  ·cases hk
 ·rename_i ty m k' v ho
  split at hk
  ·rename_i kt e m' k'' v' ht hm hk' hv
   obtain ⟨pl,hp,rfl⟩:=Aw hk
   exact absurd hsort (by simp [AK.sort])
  ·cases hk
 ·rename_i x i ho
  obtain ⟨x',hx,rfl⟩:=Aw hk
  exact Ma (cf:=cf) ho hx
 ·rename_i c ho
  split at hk
  ·exact Nn ho (by assumption) (by assumption) hk hsort
  ·cases hk; exact absurd hsort (by simp [AK.sort])
  ·obtain ⟨x',hx,rfl⟩:=Aw hk
   exact absurd hsort (by simp [AK.sort])
  ·cases hk
 ·cases hk
theorem L7 {ct:Call} {b:Builtin} {args:List Opd} {k:AK} (ho:o.op = .call ct) (hb:ct.callee = .builtin b) (ha:BB N ct.args.toList=some args) (hk:EK P b ct.argTypes args=some k) (hsort:k.sort=2):GD P ρ N o (H6 k cf t h n) t h n:=by
 have two:∀ {x y:Opd},args=[x,y]->∃ x0 y0,ct.args.toList=[x0,y0]∧AY N x0=some x∧AY N y0=some y:=fun {x y} e=>by
  subst e
  cases hl:ct.args.toList with
  | nil=>rw [hl] at ha; simp [BB] at ha
  | cons x0 l =>
   rw [hl] at ha
   simp only [BB] at ha
   split at ha
   ·rename_i x1 xs1 h1 h2
    cases ha
    cases l with
    | nil=>simp [BB] at h2
    | cons y0 l =>
     simp only [BB] at h2
     split at h2
     ·rename_i y1 ys1 h3 h4
      cases h2
      cases l with
      | nil=>exact ⟨x0,y0,rfl,h1,h3⟩
      | cons z l =>
       simp only [BB] at h4
       split at h4 <;> cases h4
     ·cases h2
   ·cases ha
 have one:∀ {x:Opd} {l:List Opd},args=x::l->∃ x0 l0,ct.args.toList=x0::l0∧AY N x0=some x:=fun {x l} e=>by
  subst e
  cases hl:ct.args.toList with
  | nil=>rw [hl] at ha; simp [BB] at ha
  | cons x0 l0 =>
   rw [hl] at ha
   simp only [BB] at ha
   split at ha
   ·rename_i x1 xs1 h1 h2
    cases ha
    exact ⟨x0,l0,rfl,h1⟩
   ·cases ha
 unfold EK at hk
 split at hk
 ·-- len
  rename_i ty ts x l hts
  obtain ⟨x0,l0,hl,hx⟩:=one rfl
  split at hk
  ·cases hk; exact absurd hsort (by simp [AK.sort])
  ·cases hk; exact absurd hsort (by simp [AK.sort])
  ·cases hk; exact absurd hsort (by simp [AK.sort])
  ·cases hk
 ·obtain ⟨x0,y0,hl,hx,hy⟩:=two rfl
  cases hk; exact absurd hsort (by simp [AK.sort])
 ·obtain ⟨x0,y0,hl,hx,hy⟩:=two rfl
  cases hk; exact absurd hsort (by simp [AK.sort])
 ·obtain ⟨x0,y0,z0,hl,hx,hy,hz⟩:=Gt ha
  cases hk; exact absurd hsort (by simp [AK.sort])
 ·rename_i ty u x y hts
  obtain ⟨x0,y0,hl,hx,hy⟩:=two rfl
  split at hk
  ·rename_i e ku ht hu
   split at hk
   ·rename_i s b z h1 h2 h3
    obtain ⟨hc,rfl⟩:=Br hk
    simp only [Bool.and_eq_true,beq_iff_eq,decide_eq_true_eq] at hc
    exact absurd hsort (by simp [AK.sort])
   ·cases hk
  ·rename_i e d hd ht hu
   split at hk
   ·rename_i s b z h1 h2 h3
    obtain ⟨hc,rfl⟩:=Br hk
    simp only [Bool.and_eq_true,beq_iff_eq,decide_eq_true_eq] at hc
    exact absurd hsort (by simp [AK.sort])
   ·cases hk
  ·cases hk
 ·rename_i ty ts x y hts
  obtain ⟨x0,y0,hl,hx,hy⟩:=two rfl
  split at hk
  ·rename_i e ht
   split at hk
   ·rename_i s h1
    obtain ⟨hc,rfl⟩:=Br hk
    exact absurd hsort (by simp [AK.sort])
   ·cases hk
  ·cases hk
 ·rename_i ty ts m k' hts
  obtain ⟨x0,y0,hl,hx,hy⟩:=two rfl
  split at hk
  ·rename_i kt e ht
   obtain ⟨pl,hp,rfl⟩:=Aw hk
   exact absurd hsort (by simp [AK.sort])
  ·cases hk
 ·rename_i ty ts x l hts
  obtain ⟨x0,l0,hl,hx⟩:=one rfl
  split at hk
  ·cases hk; exact absurd hsort (by simp [AK.sort])
  ·cases hk
 ·rename_i ty ts x l hts
  obtain ⟨x0,l0,hl,hx⟩:=one rfl
  split at hk
  ·rename_i e ht
   split at hk
   ·rename_i s z h1 h2
    obtain ⟨hc,rfl⟩:=Br hk
    exact absurd hsort (by simp [AK.sort])
   ·cases hk
  ·cases hk
 ·cases hk
theorem JR (hρ:Bq ρ) {k:AK} (hk:Fa P N o=some k) (hsort:k.sort=2):GD P ρ N o (H6 k cf t h n) t h n:=by
 unfold Fa at hk
 split at hk
 ·rename_i x ho
  obtain ⟨x',hx,rfl⟩:=Aw hk
  exact absurd hsort (by simp [AK.sort])
 ·rename_i x ho
  obtain ⟨x',hx,rfl⟩:=Aw hk
  exact absurd hsort (by simp [AK.sort])
 ·rename_i c a b ho
  split at hk
  ·cases hk; exact absurd hsort (by simp [AK.sort])
  ·cases hk
 ·rename_i e ho
  obtain ⟨z,hz,rfl⟩:=Aw hk
  exact Pa (cf:=cf) ho hz
 ·rename_i e x ho
  obtain ⟨x',hx,rfl⟩:=Aw hk
  exact Q6 (cf:=cf) hρ ho hx
 ·rename_i ty parts ho
  split at hk
  ·rename_i fs z hu hz
   obtain ⟨places,hpl,hk⟩:=BM hk
   obtain ⟨ps,hps,rfl⟩:=Aw hk
   exact absurd hsort (by simp [AK.sort])
  ·rename_i m e z hu hz
   obtain ⟨s,hs,hk⟩:=BM hk
   obtain ⟨ps,hps,rfl⟩:=Aw hk
   exact absurd hsort (by simp [AK.sort])
  ·cases hk
 ·rename_i ty len parts ho
  split at hk
  ·rename_i e hu
   split at hk
   ·rename_i s z hs hz
    split at hk
    ·rename_i hc
     obtain ⟨ps,hps,rfl⟩:=Aw hk
     simp only [Bool.and_eq_true,beq_iff_eq,decide_eq_true_eq] at hc
     exact L4 (cf:=cf) hρ ho hu hs hz hc.1.1 hc.1.2 hc.2 hps
    ·cases hk
   ·cases hk
  ·cases hk
 ·rename_i ty a ho
  split at hk
  ·cases hk; exact absurd hsort (by simp [AK.sort])
  ·cases hk; exact absurd hsort (by simp [AK.sort])
  ·cases hk
 ·rename_i ty a x ho
  split at hk
  ·cases hk; exact absurd hsort (by simp [AK.sort])
  ·cases hk
 ·rename_i x ho
  obtain ⟨x',hx,rfl⟩:=Aw hk
  exact absurd hsort (by simp [AK.sort])
 ·rename_i op ty x y yt ho
  split at hk
  ·rename_i a b ha hb
   split at hk
   ·cases hk; exact absurd hsort (by simp [AK.sort])
   ·cases hk; exact absurd hsort (by simp [AK.sort])
   ·cases hk; exact absurd hsort (by simp [AK.sort])
   ·cases hk; exact absurd hsort (by simp [AK.sort])
   ·split at hk
    ·cases hk
    ·rename_i hgd
     obtain ⟨pl,hp,rfl⟩:=Aw hk
     exact absurd hsort (by simp [AK.sort])
   ·split at hk
    ·cases hk
    ·rename_i hgd
     obtain ⟨pl,hp,rfl⟩:=Aw hk
     exact absurd hsort (by simp [AK.sort])
   ·cases hk; exact absurd hsort (by simp [AK.sort])
  ·cases hk
 ·rename_i op ty x ho
  split at hk
  ·cases hk; exact absurd hsort (by simp [AK.sort])
  ·cases hk; exact absurd hsort (by simp [AK.sort])
  ·cases hk; exact absurd hsort (by simp [AK.sort])
  ·cases hk
 ·rename_i src dst x ho
  split at hk
  ·cases hk; exact absurd hsort (by simp [AK.sort])
  ·cases hk; exact absurd hsort (by simp [AK.sort])
  ·rename_i e x' hs hd hx
   obtain ⟨hc,rfl⟩:=Br hk
   exact PX (cf:=cf) ho hx hs hd (Kr hc)
  ·rename_i e x' hs hd hx
   obtain ⟨hc,rfl⟩:=Br hk
   exact absurd hsort (by simp [AK.sort])
  ·rename_i e' e x' hs hd hx
   obtain ⟨hc,rfl⟩:=Br hk
   simp only [Bool.and_eq_true] at hc
   exact absurd hsort (by simp [AK.sort])
  ·cases hk
 ·rename_i fn first caps ho
  split at hk
  ·rename_i f l hf hl
   cases hk
   have:first = #[]:=by cases first; simp_all
   subst this
   exact absurd hsort (by simp [AK.sort])
  ·cases hk
 ·cases hk; exact Ni (cf:=cf) (by assumption)
 ·rename_i ty l c ho
  split at hk
  ·rename_i e l' c' hu hl hc
   split at hk
   ·rename_i s b z h1 h2 h3
    obtain ⟨hcc,rfl⟩:=Br hk
    simp only [Bool.and_eq_true,beq_iff_eq,decide_eq_true_eq] at hcc
    exact OF (cf:=cf) ho hl hc hu h1 h2 h3 hcc.1.1 hcc.1.2 hcc.2
   ·cases hk
  ·cases hk
 ·rename_i ty x lo hi ho
  split at hk
  ·cases hk; exact absurd hsort (by simp [AK.sort])
  ·obtain ⟨s,hs,rfl⟩:=Aw hk
   exact absurd hsort (by simp [AK.sort])
  ·obtain ⟨s,hs,rfl⟩:=Aw hk
   exact absurd hsort (by simp [AK.sort])
  ·cases hk
 ·rename_i s x f ho
  split at hk
  ·rename_i fs x' hs hx
   obtain ⟨fd,hf,hk⟩:=BM hk
   split at hk
   ·rename_i sz hsz
    cases hk; exact absurd hsort (by simp [AK.sort])
   ·cases hk
  ·cases hk
 ·rename_i s x f ho
  split at hk
  ·rename_i fs x' hs hx
   obtain ⟨fd,hf,hk⟩:=BM hk
   split at hk
   ·cases hk; exact absurd hsort (by simp [AK.sort])
   ·cases hk
  ·cases hk
 ·rename_i ty x i ho
  split at hk
  ·obtain ⟨s,hs,rfl⟩:=Aw hk
   exact absurd hsort (by simp [AK.sort])
  ·obtain ⟨s,hs,rfl⟩:=Aw hk
   exact absurd hsort (by simp [AK.sort])
  ·cases hk
 ·rename_i ty x i ho
  split at hk
  ·cases hk; exact absurd hsort (by simp [AK.sort])
  ·split at hk
   ·cases hk; exact absurd hsort (by simp [AK.sort])
   ·cases hk
  ·cases hk
 ·rename_i ty m k' ok ho
  split at hk
  ·rename_i kt e m' k'' ht hm hk'
   split at hk
   ·rename_i pl z hp hz
    obtain ⟨zz,hzz,rfl⟩:=Aw hk
    exact absurd hsort (by simp [AK.sort])
   ·cases hk
  ·cases hk
 ·rename_i ty m k' v ho
  split at hk
  ·rename_i kt e m' k'' v' ht hm hk' hv
   obtain ⟨pl,hp,rfl⟩:=Aw hk
   exact absurd hsort (by simp [AK.sort])
  ·cases hk
 ·rename_i ty m k' v ho
  split at hk
  ·rename_i kt e m' k'' v' ht hm hk' hv
   obtain ⟨pl,hp,rfl⟩:=Aw hk
   exact absurd hsort (by simp [AK.sort])
  ·cases hk
 ·rename_i x i ho
  obtain ⟨x',hx,rfl⟩:=Aw hk
  exact absurd hsort (by simp [AK.sort])
 ·rename_i c ho
  split at hk
  ·exact L7 ho (by assumption) (by assumption) hk hsort
  ·cases hk; exact absurd hsort (by simp [AK.sort])
  ·obtain ⟨x',hx,rfl⟩:=Aw hk
   exact absurd hsort (by simp [AK.sort])
  ·cases hk
 ·cases hk
end
end Go.Ev

namespace Go.Ev
set_option linter.unusedVariables false
def V3 (x:V):Prop:=∀ (y:V) (κ:R),(AD x y κ).good->x=y∧AD x y κ=κ
def WO (l:List V):Prop:=∀ (m:List V) (κ:R),(AD (.agg l) (.agg m) κ).good->l=m∧AD (.agg l) (.agg m) κ=κ
theorem Tm (x:V):V3 x:=by
 refine @V.rec V3 WO ?_ ?_ ?_ ?_ ?_ ?_ ?_ ?_ ?_ ?_ ?_ ?_ ?_ x
 ·intro k r y κ hg
  obtain ⟨j,b,rfl,e1⟩:=Cd (show R.good (FP y fun j b=>br (Bj k j) (br (Nat.beq r b) κ (.fail "")) (.fail "")) from hg)
  obtain ⟨h2,e2⟩:=Ao (show R.good (br (Bj k j) (br (Nat.beq r b) κ (.fail "")) (.fail "")) from hg)
  obtain ⟨h3,e3⟩:=Ao (e2 ▸ (show R.good (br (Bj k j) (br (Nat.beq r b) κ (.fail "")) (.fail "")) from hg))
  exact ⟨by rw [Bg.1 h2,Nat.eq_of_beq_eq_true h3],Eq.trans e2 e3⟩
 ·intro b y κ hg
  obtain ⟨c,rfl,e1⟩:=EM (show R.good (P3 y fun c=>br (Bool.rec (Bool.rec true false b) b c) κ (.fail "")) from hg)
  cases b <;> cases c <;> first | exact ⟨rfl,rfl⟩ | exact hg.elim
 ·intro p off y κ hg
  obtain ⟨q,o,rfl,e1⟩:=CW (show R.good (IR y fun q o=>br (K4.beq p q) (br (Nat.beq off o) κ (.fail "")) (.fail "")) from hg)
  have hg:R.good (br (K4.beq p q) (br (Nat.beq off o) κ (.fail "")) (.fail "")):=hg
  obtain ⟨h2,e2⟩:=Ao hg
  obtain ⟨h3,e3⟩:=Ao (e2 ▸ hg)
  exact ⟨by rw [K4.beq_iff.1 h2,Nat.eq_of_beq_eq_true h3],Eq.trans e2 e3⟩
 ·intro p off len cap ex esz y κ hg
  rcases CC (show R.good (CX y (.fail "") fun q o l c e z=>br (K4.beq p q) (br (and (Nat.beq off o) (and (Nat.beq len l) (and (Nat.beq cap c) (and (Bool.rec (Bool.rec true false ex) ex e) (Nat.beq esz z))))) κ (.fail "")) (.fail "")) from hg) with ⟨rfl,e1⟩ | ⟨q,o,l,c,e,z,rfl,e1⟩
  ·exact hg.elim
  ·have hg:R.good (br (K4.beq p q) (br (and (Nat.beq off o) (and (Nat.beq len l) (and (Nat.beq cap c) (and (Bool.rec (Bool.rec true false ex) ex e) (Nat.beq esz z))))) κ (.fail "")) (.fail "")):=hg
   obtain ⟨h2,e2⟩:=Ao hg
   obtain ⟨h3,e3⟩:=Ao (e2 ▸ hg)
   simp only [Bool.and_eq_true] at h3
   obtain ⟨a1,a2,a3,a4,a5⟩:=h3
   have a4':ex=e:=by cases ex <;> cases e <;> first | rfl | cases a4
   exact ⟨by rw [K4.beq_iff.1 h2,Nat.eq_of_beq_eq_true a1,Nat.eq_of_beq_eq_true a2,Nat.eq_of_beq_eq_true a3,a4',Nat.eq_of_beq_eq_true a5],Eq.trans e2 e3⟩
 ·intro n c y κ hg
  obtain ⟨m,d,rfl,e1⟩:=BX (show R.good (Bl y fun m d=>br (Jq n c m d) κ (.fail "")) from hg)
  have hg:R.good (br (Jq n c m d) κ (.fail "")):=hg
  obtain ⟨h2,e2⟩:=Ao hg
  simp only [Jq,Bool.and_eq_true] at h2
  exact ⟨by rw [Nat.eq_of_beq_eq_true h2.1,Nat.eq_of_beq_eq_true h2.2],e2⟩
 ·intro l ih y κ hg
  obtain ⟨m,rfl,e1⟩:=Cy (show R.good (asAgg y fun m=>AD (.agg l) (.agg m) κ) from hg)
  obtain ⟨h1,h2⟩:=ih m κ hg
  exact ⟨by rw [h1],h2⟩
 ·intro w y κ hg
  cases y with
  | nil u=>cases w <;> cases u <;> first | exact ⟨rfl,rfl⟩ | exact hg.elim
  | _=>exact hg.elim
 ·intro p y κ hg
  rcases Dn (show R.good (DC y (.fail "") fun q=>br (K4.beq p q) κ (.fail "")) from hg) with ⟨rfl,e1⟩ | ⟨q,rfl,e1⟩
  ·exact hg.elim
  ·obtain ⟨h2,e2⟩:=Ao (show R.good (br (K4.beq p q) κ (.fail "")) from hg)
   exact ⟨by rw [K4.beq_iff.1 h2],e2⟩
 ·intro f l ih y κ hg
  obtain ⟨g,m,rfl,e1⟩:=ML (show R.good (PT y fun g m=>br (Nat.beq f g) (AD (.agg l) (.agg m) κ) (.fail "")) from hg)
  have hg:R.good (br (Nat.beq f g) (AD (.agg l) (.agg m) κ) (.fail "")):=hg
  obtain ⟨h2,e2⟩:=Ao hg
  obtain ⟨h3,e3⟩:=ih m κ (e2 ▸ hg)
  exact ⟨by rw [Nat.eq_of_beq_eq_true h2,h3],Eq.trans e2 e3⟩
 ·intro l ih y κ hg
  obtain ⟨m,rfl,e1⟩:=KF (show R.good (Kg y fun m=>AD (.agg l) (.agg m) κ) from hg)
  obtain ⟨h1,h2⟩:=ih m κ hg
  exact ⟨by rw [h1],h2⟩
 ·intro o y κ hg
  cases y with
  | oth u =>
   cases o <;> cases u <;> first | exact hg.elim | exact ⟨rfl,rfl⟩ | skip
   rename_i k lo hi k' lo' hi'
   have hg:R.good (br (Bj k k') (br (Nat.beq lo lo') (br (Nat.beq hi hi') κ (.fail "")) (.fail "")) (.fail "")):=hg
   obtain ⟨h2,e2⟩:=Ao hg
   obtain ⟨h3,e3⟩:=Ao (e2 ▸ hg)
   obtain ⟨h4,e4⟩:=Ao (e3 ▸ e2 ▸ hg)
   exact ⟨by rw [Bg.1 h2,Nat.eq_of_beq_eq_true h3,Nat.eq_of_beq_eq_true h4],Eq.trans e2 (Eq.trans e3 e4)⟩
  | _=>exact hg.elim
 ·intro m κ hg
  cases m with
  | nil=>exact ⟨rfl,rfl⟩
  | cons y m=>exact hg.elim
 ·intro x l ihx ihl m κ hg
  cases m with
  | nil=>exact hg.elim
  | cons y m =>
   have hg:R.good (AD x y (AD (.agg l) (.agg m) κ)):=hg
   obtain ⟨h1,h2⟩:=ihx y _ hg
   obtain ⟨h3,h4⟩:=ihl m κ (h2 ▸ hg)
   exact ⟨by rw [h1,h3],Eq.trans h2 h4⟩
theorem DP {x y:V} {κ:R} (h:(AD x y κ).good):x=y∧AD x y κ=κ:=Tm x y κ h
def Fe (g:Option (K2×Bool)) (t:Regs):Prop:=∀ y n,CK g t y n=y
def PZ (g:Option (K2×Bool)) (t:Regs):Prop:=∀ y n,CK g t y n=n
theorem EA {g:Option (K2×Bool)} {t:Regs} {yes no:R} (hg:(CK g t yes no).good):Fe g t∨PZ g t:=by
 cases g with
 | none=>exact .inl fun _ _=>rfl
 | some pw =>
  obtain ⟨p,want⟩:=pw
  have e1:∀ y n,CK (some (p,want)) t y n=@V.rec (fun _=>R) (fun _=>Unit) (fun _ _=>n) (fun b=>br (Bool.rec (Bool.rec true false b) b want) y n) (fun _ _=>n) (fun _ _ _ _ _ _=>n) (fun _ _=>n) (fun _ _=>n) (fun _=>n) (fun _=>n) (fun _ _ _=>n) (fun _ _=>n) (fun o=>.fail "") () (fun _ _ _ _=>()) (Bi p t):=fun y n=>CA p t _
  rw [e1] at hg
  cases hv:Bi p t with
  | bool b=>cases b <;> cases want <;> first | exact .inl fun y n=>by rw [e1,hv]; rfl | exact .inr fun y n=>by rw [e1,hv]; rfl
  | oth _=>rw [hv] at hg; exact hg.elim
  | _=>exact .inr fun y n=>by rw [e1,hv]
theorem N8 {g:Option (K2×Bool)} {t t':Regs} (h:∀ p w,g=some (p,w)->Bi p t=Bi p t') (y n:R):CK g t y n=CK g t' y n:=by
 cases g with
 | none=>rfl
 | some pw =>
  obtain ⟨p,want⟩:=pw
  have:=h p want rfl
  show Hg p t _=Hg p t' _
  rw [CA,CA,this]
structure St where
 t:Regs
 h0:Heap
 h1:Heap
 n:K4
def E1 (b:K4) (j:D):K4:=⟨b.a,b.b,b.c,j⟩
def Ia (cf:CF) (b:K4):Item->St->St->Prop
 | .rd _ o,s,s'=>(Fe o.g s.t ∧ ∃ v h n,H6 o.k cf s.t s.h0 s.n JE = .rv v h n∧s'=⟨Dd o.dst s.t v,s.h0,s.h1,s.n⟩)∨(PZ o.g s.t∧s'=⟨Dd o.dst s.t Cf,s.h0,s.h1,s.n⟩)
 | .ef _ o,s,s'=>(Fe o.g s.t ∧ ∃ v h n,H6 o.k cf s.t s.h1 s.n R.rv = .rv v h n∧s'=⟨Dd o.dst s.t v,h,h,n⟩)∨(PZ o.g s.t∧s'=⟨Dd o.dst s.t Cf,s.h1,s.h1,s.n⟩)
 | .al _ j o,s,s'=>(Fe o.g s.t∧AL (E1 b j) s.h1=none ∧ ∃ v h n,H6 o.k cf s.t s.h1 (E1 b j) R.rv = .rv v h n∧s'=⟨Dd o.dst s.t v,s.h0,h,s.n⟩)∨(PZ o.g s.t∧s'=⟨Dd o.dst s.t Cf,s.h0,s.h1,s.n⟩)
 | .ck _ o,s,s'=>s'=s∧((Fe o.g s.t ∧ ∃ p h n,o.dst=some p∧H6 o.k cf s.t s.h0 s.n JE = .rv (Bi p s.t) h n)∨PZ o.g s.t)
 | .no j,s,s'=>s'=s∧AL (E1 b j) s.h0=none
 | .rn _ j o,s,s'=>(Fe o.g s.t ∧ ∃ ob v h n,AL (E1 b j) s.h1=some ob∧H6 o.k cf s.t (B5 (E1 b j) AT (some ob)) s.n JE = .rv v h n∧s'=⟨Dd o.dst s.t v,s.h0,s.h1,s.n⟩)∨(PZ o.g s.t∧s'=⟨Dd o.dst s.t Cf,s.h0,s.h1,s.n⟩)
theorem OJ {r:R} {κ:V->Heap->K4->R} (hg:(AZ r κ).good):∃ v h n,r = .rv v h n∧AZ r κ=κ v h n:=by
 cases r with
 | ok e t h n=>exact hg.elim
 | rv v h n=>exact ⟨v,h,n,rfl,rfl⟩
 | fail w=>exact hg.elim
 | both a b=>exact hg.elim
theorem Tz {o:Option Ob} {κ:Ob->R} (hg:(VR o κ).good):∃ ob,o=some ob∧VR o κ=κ ob:=by
 cases o with
 | none=>exact hg.elim
 | some x=>exact ⟨x,rfl,rfl⟩
theorem KR {o:Option Ob} {κ:R} (hg:(Hn o κ).good):o=none∧Hn o κ=κ:=by
 cases o with
 | none=>exact ⟨rfl,rfl⟩
 | some x=>exact hg.elim
end Go.Ev

namespace Go.Ev
set_option linter.unusedVariables false
theorem Dg {a b:Nat}:Nat.blt a b=true ↔ a<b:=by unfold Nat.blt; rw [Ap]; exact Iff.rfl
theorem K2.beq_iff {p q:K2}:p.beq q=true ↔ p=q:=by
 obtain ⟨a,b⟩:=p; obtain ⟨c,d⟩:=q
 simp only [K2.beq,Bool.and_eq_true,D.beq_iff,K2.mk.injEq]
 exact And.comm
theorem OR {p:K2} {l:List K2}:U1 p l=true ↔ p∈l:=by
 unfold U1
 rw [List.any_eq_true]
 constructor
 ·rintro ⟨x,hx,h⟩; rw [K2.beq_iff.1 h]; exact hx
 ·intro h; exact ⟨p,h,K2.beq_iff.2 rfl⟩
namespace Plot
structure Good (p:Plot):Prop where
 dst:∀ i j d,i<p.m->j<p.m->p.dst i=some d->p.dst j=some d->i=j
 deps:∀ i d,i<p.m->d∈p.deps i->d<i
 anc:∀ i d,i<p.m->d<p.m->p.anc i d=true->d∈p.deps i ∨ ∃ c∈p.deps i,p.anc c d=true
 pos:∀ i,i<p.m->(p.sk[p.pos i]? = some (.ef i)∧p.sort i=3)∨(∃ j,p.sk[p.pos i]? = some (.al i j)∧p.sort i=2)∨((p.sk[p.pos i]? = some (.rd i) ∨ ∃ a d,p.sk[p.pos i]? = some (.rn i a d))∧p.sort i≤1)
 rn:∀ i a d,i<p.m->p.sk[p.pos i]? = some (.rn i a d)->a<p.m∧p.sk[p.pos a]? = some (.al a d)∧p.anc i a=true∧p.pos a<p.pos i∧p.bat (p.pos a)=p.bat (p.pos i)
 uniq:∀ l x i,p.sk[l]? = some x->x.ix=some i->i<p.m∧p.pos i=l
 ck:∀ l i,p.sk[l]? = some (.ck i)->i<p.m∧p.pos i<l∧p.sort i≤1
 slots:∀ i w d,i<p.m->w<p.m->p.dst w=some d->d∈p.slots i->i≠w∧((p.anc i w=true∧p.pos w<p.pos i)∨(p.anc w i=true∧p.pos i<p.pos w ∧ ∀ l,p.sk[l]? = some (.ck i)->l<p.pos w))
 eff:∀ i j,i<p.m->j<p.m->p.sort i=3->p.sort j=3->p.pos i<p.pos j->p.anc j i=true
 read:∀ i j,i<p.m->p.sort i=1->j≤p.effs.length->(∃ e,e<p.m∧p.sort e=3∧((p.anc i e=true∧j≤p.bat (p.pos e))∨(p.anc e i=true∧p.bat (p.pos e)<j)))∨(∃ a d,p.sk[p.pos i]? = some (.rn i a d)∧j≤p.bat (p.pos a)) ∨ ∃ l x,p.bat l=j∧p.sk[l]? = some x∧x.reads=some i
 al:∀ i d,i<p.m->p.sk[p.pos i]? = some (.al i d)->∀ j,j≤p.effs.length->(j≤p.bat (p.pos i)->∃ l,p.bat l=j∧p.sk[l]? = some (.no d))∧(p.bat (p.pos i)<j->∃ e,e<p.m∧p.sort e=3∧p.anc e i=true∧p.bat (p.pos e)<j)
 alD:∀ i i' d d',i<p.m->i'<p.m->i≠i'->p.sk[p.pos i]? = some (.al i d)->p.sk[p.pos i']? = some (.al i' d')->d≠d'
variable {p:Plot}
theorem D4 {f:Nat->Bool}:p.all f=true ↔ ∀ i,i<p.m->f i=true:=by
 unfold Plot.all; rw [List.all_eq_true]; simp
theorem Eh {i:Nat} (h:i<p.m):p.tab.po.getD i 0=p.pos i:=by
 simp [tab,List.getD_eq_getElem?_getD,List.getElem?_map,List.getElem?_range h]
theorem IY {l:Nat} (h:l≤p.sk.length):p.tab.ba.getD l 0=p.bat l:=by
 simp [tab,List.getD_eq_getElem?_getD,List.getElem?_map,List.getElem?_range (show l<p.sk.length+1 by omega)]
theorem NL {e:Nat}:e∈p.effs ↔ ∃ l:Nat,p.sk[l]? = some (SI.ef e):=by
 unfold effs
 rw [List.mem_filterMap]
 constructor
 ·rintro ⟨x,hx,h⟩
  obtain ⟨l,hl,rfl⟩:=List.getElem_of_mem hx
  refine ⟨l,?_⟩
  rw [List.getElem?_eq_getElem hl]
  split at h
  ·rename_i i hi; cases h; rw [hi]
  ·cases h
 ·rintro ⟨l,hl⟩
  exact ⟨.ef e,List.mem_of_getElem? hl,rfl⟩
theorem sk_lt {l:Nat} {x:SI} (h:p.sk[l]? = some x):l<p.sk.length:=(List.getElem?_eq_some_iff.1 h).1
theorem RM (i:Nat):SI.isCk i (.ck i)=true:=by simp [SI.isCk]
theorem good_of_ok (h:p.ok=true):p.Good:=by
 unfold ok at h
 simp only [Bool.and_eq_true] at h
 obtain ⟨h1,h2,h3,h4,h5,h6,h7,h8,h9⟩:=h
 have pos:∀ i,i<p.m->(p.sk[p.pos i]? = some (.ef i)∧p.sort i=3)∨(∃ j,p.sk[p.pos i]? = some (.al i j)∧p.sort i=2)∨((p.sk[p.pos i]? = some (.rd i) ∨ ∃ a d,p.sk[p.pos i]? = some (.rn i a d))∧p.sort i≤1):=fun i hi=>by
  have:=D4.1 h4 i hi
  rw [Eh hi] at this
  split at this
  ·rename_i j hj
   simp only [Bool.and_eq_true] at this
   have e:=Nat.eq_of_beq_eq_true this.1
   subst e
   exact .inl ⟨hj,Nat.eq_of_beq_eq_true this.2⟩
  ·rename_i j d hj
   simp only [Bool.and_eq_true] at this
   have e:=Nat.eq_of_beq_eq_true this.1
   subst e
   exact .inr (.inl ⟨d,hj,Nat.eq_of_beq_eq_true this.2⟩)
  ·rename_i j hj
   simp only [Bool.and_eq_true] at this
   have e:=Nat.eq_of_beq_eq_true this.1
   subst e
   exact .inr (.inr ⟨.inl hj,Ap.1 this.2⟩)
  ·rename_i j a d hj
   simp only [Bool.and_eq_true] at this
   have e:=Nat.eq_of_beq_eq_true this.1
   subst e
   exact .inr (.inr ⟨.inr ⟨a,d,hj⟩,Ap.1 this.2.1⟩)
  ·cases this
 have rn:∀ i a d,i<p.m->p.sk[p.pos i]? = some (.rn i a d)->a<p.m∧p.sk[p.pos a]? = some (.al a d)∧p.anc i a=true∧p.pos a<p.pos i∧p.bat (p.pos a)=p.bat (p.pos i):=fun i a d hi hp=>by
  have:=D4.1 h4 i hi
  rw [Eh hi,hp] at this
  simp only [Bool.and_eq_true] at this
  obtain ⟨_,_,q1,q2,q3,q4,q5⟩:=this
  have ha:a<p.m:=Dg.1 q1
  rw [Eh ha] at q3 q4 q5
  have hal:p.sk[p.pos a]? = some (.al a d):=by
   split at q5
   ·rename_i a' d' hq
    simp only [Bool.and_eq_true] at q5
    rw [hq,Nat.eq_of_beq_eq_true q5.1,D.beq_iff.1 q5.2]
   ·cases q5
  rw [IY (Nat.le_of_lt (sk_lt hal)),IY (Nat.le_of_lt (sk_lt hp))] at q4
  exact ⟨ha,hal,q2,Dg.1 q3,Nat.eq_of_beq_eq_true q4⟩
 have uniq:∀ l x i,p.sk[l]? = some x->x.ix=some i->i<p.m∧p.pos i=l:=fun l x i hl hx=>by
  have:=List.all_eq_true.1 h5 l (List.mem_range.2 (sk_lt hl))
  rw [hl] at this
  simp only [hx,Bool.and_eq_true] at this
  have hi:i<p.m:=Dg.1 this.1
  have:=Nat.eq_of_beq_eq_true this.2
  rw [Eh hi] at this
  exact ⟨hi,this⟩
 have eft:∀ e,e∈p.tab.ef->e<p.m∧p.sort e=3∧p.sk[p.pos e]? = some (.ef e):=fun e he=>by
  obtain ⟨l,hl⟩:=NL.1 he
  obtain ⟨hm,hp⟩:=uniq l _ e hl rfl
  rcases pos e hm with ⟨q1,q2⟩ | ⟨j,q1,q2⟩ | ⟨q1 | ⟨_,_,q1⟩,q2⟩
  ·exact ⟨hm,q2,q1⟩
  ·rw [hp,hl] at q1; cases q1
  ·rw [hp,hl] at q1; cases q1
  ·rw [hp,hl] at q1; cases q1
 have efm:∀ e,e<p.m->p.sort e=3->e∈p.tab.ef:=fun e he hs=>by
  rcases pos e he with ⟨q1,q2⟩ | ⟨j,q1,q2⟩ | ⟨q1,q2⟩
  ·exact NL.2 ⟨_,q1⟩
  ·omega
  ·omega
 refine ⟨fun i j d hi hj hdi hdj=>?_,fun i d hi hd=>?_,fun i d hi hd ha=>?_,pos,rn,uniq,fun l i hl=>?_,fun i w d hi hw hd hs=>?_,fun i j hi hj hsi hsj hlt=>?_,fun i j hi hs hj=>?_,fun i d hi hd j hj=>?_,fun i i' d d' hi hi' hne hd hd'=>?_⟩
 ·have:=D4.1 (D4.1 h1 i hi) j hj
  simp only [hdi,hdj,Bool.or_eq_true] at this
  rcases this with h | h
  ·exact Nat.eq_of_beq_eq_true h
  ·rw [K2.beq_iff.2 rfl] at h; cases h
 ·have:=List.all_eq_true.1 (D4.1 h2 i hi) d hd
  exact Dg.1 this
 ·have:=D4.1 (D4.1 h3 i hi) d hd
  rw [ha] at this
  simp only [Bool.not_true,Bool.false_or,List.any_eq_true,Bool.or_eq_true] at this
  obtain ⟨c,hc,h | h⟩:=this
  ·rw [←Nat.eq_of_beq_eq_true h]; exact .inl hc
  ·exact .inr ⟨c,hc,h⟩
 ·have:=List.all_eq_true.1 h5 l (List.mem_range.2 (sk_lt hl))
  rw [hl] at this
  simp only [SI.ix,Bool.and_eq_true] at this
  have hi:i<p.m:=Dg.1 this.1.1
  have h':=this.1.2
  rw [Eh hi] at h'
  exact ⟨hi,Dg.1 h',Ap.1 this.2⟩
 ·have:=D4.1 (D4.1 h6 i hi) w hw
  have hwr:p.writes w (p.slots i)=true:=by unfold writes; rw [hd]; exact OR.2 hs
  rw [hwr] at this
  simp only [Bool.not_true,Bool.false_or,Bool.and_eq_true,Bool.or_eq_true,Eh hi,Eh hw,Bool.not_eq_true'] at this
  refine ⟨fun e=>by subst e; simp at this,?_⟩
  rcases this.2 with ⟨q1,q2⟩ | ⟨⟨q1,q2⟩,q3⟩
  ·exact .inl ⟨q1,Dg.1 q2⟩
  ·refine .inr ⟨q1,Dg.1 q2,fun l hl=>?_⟩
   have:=List.all_eq_true.1 q3 l (List.mem_range.2 (sk_lt hl))
   rw [hl] at this
   simp only [RM,Bool.not_true,Bool.false_or] at this
   exact Dg.1 this
 ·have:=List.all_eq_true.1 (List.all_eq_true.1 h7 i (efm i hi hsi)) j (efm j hj hsj)
  rw [Eh hi,Eh hj] at this
  simp only [Bool.or_eq_true,Bool.not_eq_true'] at this
  rcases this with h | h
  ·rw [Dg.2 hlt] at h; cases h
  ·exact h
 ·have:=D4.1 h8 i hi
  simp only [hs,Bool.or_eq_true] at this
  rcases this with h | h
  ·simp at h
  ·have:=List.all_eq_true.1 h j (List.mem_range.2 (by show j<p.effs.length+1; omega))
   simp only [Bool.or_eq_true] at this
   rcases this with (h | h) | h
   ·unfold never at h
    obtain ⟨e,he,h⟩:=List.any_eq_true.1 h
    obtain ⟨q1,q2,q3⟩:=eft e he
    rw [Eh q1,IY (Nat.le_of_lt (sk_lt q3))] at h
    simp only [Bool.or_eq_true,Bool.and_eq_true] at h
    refine .inl ⟨e,q1,q2,?_⟩
    rcases h with ⟨a,b⟩ | ⟨a,b⟩
    ·exact .inl ⟨a,Ap.1 b⟩
    ·exact .inr ⟨a,Dg.1 b⟩
   ·have hf:p.fresh p.tab i j=true:=h
    unfold fresh at hf
    rw [Eh hi] at hf
    split at hf
    ·rename_i i' a d hq
     obtain ⟨_,hp'⟩:=uniq _ _ i' hq rfl
     have hi':i'=i:=by
      rcases pos i hi with ⟨q1,_⟩ | ⟨_,q1,_⟩ | ⟨q1 | ⟨_,_,q1⟩,_⟩
      ·rw [hq] at q1; cases q1
      ·rw [hq] at q1; cases q1
      ·rw [hq] at q1; cases q1
      ·rw [hq] at q1; cases q1; rfl
     subst hi'
     obtain ⟨ha,hal,_⟩:=rn i' a d hi hq
     rw [Eh ha,IY (Nat.le_of_lt (sk_lt hal))] at hf
     exact .inr (.inl ⟨a,d,hq,Ap.1 hf⟩)
    ·cases hf
   ·obtain ⟨l,hl,h⟩:=List.any_eq_true.1 h
    have hl:=List.mem_range.1 hl
    rw [IY (Nat.le_of_lt hl)] at h
    simp only [Bool.and_eq_true] at h
    refine .inr (.inr ⟨l,p.sk[l],Nat.eq_of_beq_eq_true h.1,List.getElem?_eq_getElem hl,?_⟩)
    have h2:=h.2
    rw [List.getElem?_eq_getElem hl] at h2
    simp only at h2
    split at h2
    ·rename_i i' hi'; rw [hi',Nat.eq_of_beq_eq_true h2]
    ·cases h2
 ·have:=D4.1 h9 i hi
  rw [Eh hi,hd] at this
  have hsort:p.sort i=2:=by
   rcases pos i hi with ⟨q1,q2⟩ | ⟨j,q1,q2⟩ | ⟨q1 | ⟨_,_,q1⟩,q2⟩
   ·rw [hd] at q1; cases q1
   ·exact q2
   ·rw [hd] at q1; cases q1
   ·rw [hd] at q1; cases q1
  simp only [hsort,Bool.or_eq_true,Bool.and_eq_true] at this
  rcases this with h | ⟨h,_⟩
  ·simp at h
  ·have hp:=List.all_eq_true.1 h j (List.mem_range.2 (by show j<p.effs.length+1; omega))
   rw [IY (Nat.le_of_lt (sk_lt hd))] at hp
   constructor
   ·intro hle
    rw [if_pos (Ap.2 hle)] at hp
    obtain ⟨l,hl,h⟩:=List.any_eq_true.1 hp
    have hl:=List.mem_range.1 hl
    rw [IY (Nat.le_of_lt hl)] at h
    simp only [Bool.and_eq_true] at h
    refine ⟨l,Nat.eq_of_beq_eq_true h.1,?_⟩
    have h2:=h.2
    split at h2
    ·rename_i d' hd'; rw [hd',D.beq_iff.1 h2]
    ·cases h2
   ·intro hlt
    rw [if_neg (fun h=>by have:=Ap.1 h; omega)] at hp
    obtain ⟨e,he,h⟩:=List.any_eq_true.1 hp
    obtain ⟨q1,q2,q3⟩:=eft e he
    rw [Eh q1,IY (Nat.le_of_lt (sk_lt q3))] at h
    simp only [Bool.and_eq_true] at h
    exact ⟨e,q1,q2,h.1,Dg.1 h.2⟩
 ·have:=D4.1 h9 i hi
  rw [Eh hi,hd] at this
  have hsort:p.sort i=2:=by
   rcases pos i hi with ⟨q1,q2⟩ | ⟨j,q1,q2⟩ | ⟨q1 | ⟨_,_,q1⟩,q2⟩
   ·rw [hd] at q1; cases q1
   ·exact q2
   ·rw [hd] at q1; cases q1
   ·rw [hd] at q1; cases q1
  simp only [hsort,Bool.or_eq_true,Bool.and_eq_true] at this
  rcases this with h | ⟨_,h⟩
  ·simp at h
  ·have:=D4.1 h i' hi'
   rw [Eh hi',hd'] at this
   simp only [Bool.or_eq_true] at this
   rcases this with h | h
   ·exact absurd (Nat.eq_of_beq_eq_true h) hne
   ·exact fun e=>by subst e; rw [D.beq_iff.2 rfl] at h; cases h
end Plot
end Go.Ev

namespace Go.Ev
set_option linter.unusedVariables false
section
variable {P:Program} {ρ:Env} {B N:Nat}
theorem Gam.hide {h:Heap} {n r:K4} {φ:B6} {w:World} (g:Gam ρ B h n φ w) (hr:φ r=none) (hn:r.toN<n.toN) (hh:AL r h=none) (O:Obj) (tot:Nat) :
  Gam ρ B h n (E5 φ r (w.heap.size,0,tot)) (w.alloc O) where
 base:=by have:=g.base; rw [World.size_alloc]; omega
 glob:=fun b c e fr hb=>⟨(g.glob b c e fr hb).1,by rw [Go.RowKit.Below.heap_alloc w O b (by have:=(g.glob b c e fr hb).1; have:=g.base; omega)]; exact (g.glob b c e fr hb).2⟩
 dom:=fun q x hx=>by
  rcases AW hx with ⟨rfl,_⟩ | ⟨_,hx⟩
  ·exact hn
  ·exact g.dom q x hx
 blk:=fun q b s t hx=>by
  rw [World.size_alloc]
  rcases AW hx with ⟨rfl,e⟩ | ⟨_,hx⟩
  ·simp only [Prod.mk.injEq] at e; have:=g.base; omega
  ·have:=g.blk q b s t hx; omega
 obj:=fun q o b s t hq hx=>by
  rcases AW hx with ⟨rfl,_⟩ | ⟨hne,hx⟩
  ·rw [hh] at hq; cases hq
  ·exact Ca (Go.RowKit.Below.heap_alloc w O b (g.blk q b s t hx).2) (DX (CN hr) (g.obj q o b s t hq hx))
 sep:=fun p q o o' b s t s' t' hne hp hq hx hy=>by
  rcases AW hx with ⟨rfl,_⟩ | ⟨_,hx⟩
  ·rw [hh] at hp; cases hp
  ·rcases AW hy with ⟨rfl,_⟩ | ⟨_,hy⟩
   ·rw [hh] at hq; cases hq
   ·exact g.sep p q o o' b s t s' t' hne hp hq hx hy
 sup:=fun p q o o' b s t s' t' hp hpr hq hx hy=>by
  rcases AW hx with ⟨rfl,_⟩ | ⟨_,hx⟩
  ·rw [hh] at hp; cases hp
  ·rcases AW hy with ⟨rfl,_⟩ | ⟨_,hy⟩
   ·rw [hh] at hq; cases hq
   ·exact g.sup p q o o' b s t s' t' hp hpr hq hx hy
theorem Fr.hide {h h1:Heap} {φ0 φ:B6} {n n1 r:K4} {w0 w:World} (f:Fr h h1 φ0 φ n n1 w0 w) (hr:φ r=none) (h1':n.toN≤r.toN) (h2:r.toN<n1.toN) (O:Obj) (tot:Nat) :
  Fr h h1 φ0 (E5 φ r (w.heap.size,0,tot)) n n1 w0 (w.alloc O) where
 ext:=B6.le_trans f.ext (CN hr)
 new:=fun p x hx=>by
  rcases AW hx with ⟨rfl,_⟩ | ⟨_,hx⟩
  ·exact .inr ⟨h1',h2⟩
  ·exact f.new p x hx
 nn:=f.nn
 os:=f.os
 tape:=f.tape
 out:=f.out
 size:=by have:=f.size; rw [World.size_alloc]; omega
 old:=fun b hb hn=>by
  rw [←f.old b hb hn]
  exact Go.RowKit.Below.heap_alloc w O b (Nat.lt_of_lt_of_le hb f.size)
 fresh:=fun p b s t hx=>by
  rcases AW hx with ⟨rfl,e⟩ | ⟨_,hx⟩
  ·simp only [Prod.mk.injEq] at e; have:=f.size; exact .inr (.inl (by omega))
  ·exact f.fresh p b s t hx
 dm:=f.dm
theorem Fr.drewR {h h1:Heap} {φ0 φ:B6} {n n1:K4} {w0 w:World} (f:Fr h h1 φ0 φ n n1 w0 w):Fr h h1 φ0 φ n n1 w0 w.drew:=Fr.trans f Fr.drew
theorem Gam.showAll {h h':Heap} {n:K4} {φ:B6} {w:World} (g:Gam ρ B h n φ w)
  (hs:∀ q,AL q h'=AL q h ∨ ∃ ob bk tot,AL q h=none∧AL q h'=some ob∧BP ob=none∧φ q=some (bk,0,tot)∧Fg ρ φ w ob bk 0 tot ∧ ∀ q' x y,φ q'=some (bk,x,y)->q'=q) :
  Gam ρ B h' n φ w where
 base:=g.base
 glob:=g.glob
 dom:=g.dom
 blk:=g.blk
 obj:=fun q o b s t hq hx=>by
  rcases hs q with e | ⟨ob,bk,tot,e1,e2,e3,e4,e5,e6⟩
  ·rw [e] at hq; exact g.obj q o b s t hq hx
  ·rw [e2] at hq; cases hq
   rw [e4] at hx; simp only [Option.some.injEq,Prod.mk.injEq] at hx
   obtain ⟨rfl,rfl,rfl⟩:=hx
   exact e5
 sep:=fun p q o o' b s t s' t' hne hp hq hx hy=>by
  rcases hs p with e | ⟨ob,bk,tot,e1,e2,e3,e4,e5,e6⟩
  ·rcases hs q with e' | ⟨ob,bk,tot,e1,e2,e3,e4,e5,e6⟩
   ·rw [e] at hp; rw [e'] at hq
    exact g.sep p q o o' b s t s' t' hne hp hq hx hy
   ·rw [e4] at hy; simp only [Option.some.injEq,Prod.mk.injEq] at hy
    obtain ⟨rfl,rfl,rfl⟩:=hy
    exact absurd (e6 p s t hx) hne
  ·rw [e4] at hx; simp only [Option.some.injEq,Prod.mk.injEq] at hx
   obtain ⟨rfl,rfl,rfl⟩:=hx
   exact absurd (e6 q s' t' hy).symm hne
 sup:=fun p q o o' b s t s' t' hp hpr hq hx hy=>by
  rcases hs p with e | ⟨ob,bk,tot,e1,e2,e3,e4,e5,e6⟩
  ·rw [e] at hp
   rcases hs q with e' | ⟨ob,bk,tot,e1,e2,e3,e4,e5,e6⟩
   ·rw [e'] at hq; exact g.sup p q o o' b s t s' t' hp hpr hq hx hy
   ·rw [e4] at hy; simp only [Option.some.injEq,Prod.mk.injEq] at hy
    obtain ⟨rfl,rfl,rfl⟩:=hy
    have:=e6 p s t hx
    subst this
    rw [e1] at hp; cases hp
  ·rw [e2] at hp; cases hp; rw [e3] at hpr; cases hpr
theorem Fr.show {h h1 h':Heap} {φ0 φ:B6} {n n1:K4} {w0 w:World} (f:Fr h h1 φ0 φ n n1 w0 w) (hs:∀ p,φ0 p≠none->AL p h'=AL p h1):Fr h h' φ0 φ n n1 w0 w :=
 ⟨f.ext,f.new,f.nn,f.os,f.tape,f.out,f.size,f.old,f.fresh,fun p hp hn=>by rw [hs p hp]; exact f.dm p hp hn⟩
end
end Go.Ev

namespace Go.Ev
set_option linter.unusedVariables false
section
variable {P:Program} {N:Nat} {ops:Array Oper} {os:List AOp} {p:Plot} {b:K4} {cf:CF} {st:Nat->St}
structure Rn (P:Program) (N:Nat) (ops:Array Oper) (os:List AOp) (p:Plot) (cf:CF) (b:K4) (st:Nat->St):Prop where
 good:p.Good
 cops:Gi P N ops ops.toList=some os
 plot:p=BZ (ops.toList.map Co) os
 step:∀ l x,p.sk[l]? = some x->Ia cf b (JJ os x) (st l) (st (l+1))
theorem KC {ops:Array Oper}:∀ {l:List Oper} {os:List AOp},Gi P N ops l=some os->os.length=l.length ∧ ∀ (i:Nat) (o:Oper),l[i]? = some o->∃ ao,os[i]? = some ao∧Jc P N ops o=some ao
 | [],os,h=>by simp only [Gi,Option.some.injEq] at h; subst h; exact ⟨rfl,fun i o ho=>by simp at ho⟩
 | o::l,os,h=>by
  simp only [Gi] at h
  split at h
  ·rename_i ao al ho hl
   cases h
   obtain ⟨h1,h2⟩:=KC hl
   refine ⟨by simp [h1],fun i o' ho'=>?_⟩
   cases i with
   | zero=>simp at ho'; subst ho'; exact ⟨ao,rfl,ho⟩
   | succ i=>simpa using h2 i o' (by simpa using ho')
  ·cases h
namespace Rn
theorem size (r:Rn P N ops os p cf b st):p.m=ops.size:=by
 have:=(KC r.cops).1
 rw [r.plot]; simp [Plot.m,BZ,this]
theorem get (r:Rn P N ops os p cf b st) {i:Nat} (hi:i<p.m):∃ o ao,ops[i]? = some o∧os[i]? = some ao∧os.getD i C6=ao∧Jc P N ops o=some ao∧p.sort i=ao.k.sort∧p.dst i=ao.dst∧p.slots i=ao.slots∧p.deps i=Co o:=by
 have hs:=r.size
 have hi':i<ops.size:=by omega
 obtain ⟨ao,h1,h2⟩:=(KC r.cops).2 i ops[i] (by rw [Array.getElem?_toList]; exact Array.getElem?_eq_getElem hi')
 refine ⟨ops[i],ao,Array.getElem?_eq_getElem hi',h1,by rw [List.getD_eq_getElem?_getD,h1]; rfl,h2,?_,?_,?_,?_⟩
 ·rw [r.plot]; simp [Plot.sort,BZ,List.getD_eq_getElem?_getD,h1]
 ·rw [r.plot]; simp [Plot.dst,BZ,List.getD_eq_getElem?_getD,h1]
 ·rw [r.plot]; simp [Plot.slots,BZ,List.getD_eq_getElem?_getD,h1]
 ·rw [r.plot]; simp [Plot.deps,BZ,List.getD_eq_getElem?_getD,Array.getElem?_eq_getElem hi']
theorem dst_eq (r:Rn P N ops os p cf b st) (i:Nat):p.dst i=(os.getD i C6).dst:=by
 rw [r.plot]
 simp only [Plot.dst,BZ,List.getD_eq_getElem?_getD,List.getElem?_map]
 cases os[i]? <;> rfl
theorem writes (r:Rn P N ops os p cf b st) {l:Nat} {x:SI} (hx:p.sk[l]? = some x) :
  (∀ i,x.ix=some i->∃ v,(st (l+1)).t=Dd (p.dst i) (st l).t v)∧(x.ix=none->st (l+1)=st l):=by
 have hs:=r.step l x hx
 cases x with
 | rd i =>
  refine ⟨fun i' hi=>?_,fun h=>by cases h⟩
  cases hi
  rw [r.dst_eq]
  rcases hs with ⟨_,v,h,n,_,e⟩ | ⟨_,e⟩ <;> rw [e] <;> exact ⟨_,rfl⟩
 | ef i =>
  refine ⟨fun i' hi=>?_,fun h=>by cases h⟩
  cases hi
  rw [r.dst_eq]
  rcases hs with ⟨_,v,h,n,_,e⟩ | ⟨_,e⟩ <;> rw [e] <;> exact ⟨_,rfl⟩
 | al i j =>
  refine ⟨fun i' hi=>?_,fun h=>by cases h⟩
  cases hi
  rw [r.dst_eq]
  rcases hs with ⟨_,_,v,h,n,_,e⟩ | ⟨_,e⟩ <;> rw [e] <;> exact ⟨_,rfl⟩
 | ck i=>exact ⟨fun i' hi=>(by cases hi),fun _=>hs.1⟩
 | no j=>exact ⟨fun i' hi=>(by cases hi),fun _=>hs.1⟩
 | rn i a j =>
  refine ⟨fun i' hi=>?_,fun h=>by cases h⟩
  cases hi
  rw [r.dst_eq]
  rcases hs with ⟨_,ob,v,h,n,_,_,e⟩ | ⟨_,e⟩ <;> rw [e] <;> exact ⟨_,rfl⟩
theorem keep (r:Rn P N ops os p cf b st) {q:K2} {l1:Nat}:∀ {l2:Nat},l1≤l2->l2≤p.sk.length->(∀ l,l1≤l->l<l2->∀ x i,p.sk[l]? = some x->x.ix=some i->p.dst i≠some q)->Bi q (st l1).t=Bi q (st l2).t:=by
 intro l2 h12
 induction l2 with
 | zero =>
  intro _ _; have:l1=0:=by omega
  subst this; rfl
 | succ l2 ih =>
  intro hL hw
  by_cases e:l1=l2+1
  ·subst e; rfl
  ·rw [ih (by omega) (by omega) fun l h1 h2=>hw l h1 (by omega)]
   have hx:p.sk[l2]? = some p.sk[l2]:=List.getElem?_eq_getElem (by omega)
   obtain ⟨w1,w2⟩:=r.writes hx
   cases hix:(p.sk[l2]'(by omega)).ix with
   | none=>rw [w2 hix]
   | some i =>
    obtain ⟨v,hv⟩:=w1 i hix
    have hne:=hw l2 (by omega) (by omega) _ i hx hix
    rw [hv]
    cases hd:p.dst i with
    | none=>rfl
    | some d =>
     have:d≠q:=fun e=>hne (by rw [hd,e])
     exact (Bv _ _ this).symm
theorem reg_after (r:Rn P N ops os p cf b st) {q:K2} {w l:Nat} (hw:w<p.m) (hd:p.dst w=some q) (h1:p.pos w<l) (h2:l≤p.sk.length):Bi q (st l).t=Bi q (st p.sk.length).t :=
 r.keep h2 (Nat.le_refl _) fun l' h3 h4 x i hx hi e=>by
  obtain ⟨hm,hp⟩:=r.good.uniq l' x i hx hi
  have:=r.good.dst i w q hm hw e hd
  subst this; omega
theorem reg_before (r:Rn P N ops os p cf b st) {q:K2} {w l:Nat} (hw:w<p.m) (hd:p.dst w=some q) (h1:l≤p.pos w) (h2:l≤p.sk.length):Bi q (st l).t=Bi q (st 0).t :=
 (r.keep (Nat.zero_le _) h2 fun l' h3 h4 x i hx hi e=>by
  obtain ⟨hm,hp⟩:=r.good.uniq l' x i hx hi
  have:=r.good.dst i w q hm hw e hd
  subst this; omega).symm
theorem reg_free (r:Rn P N ops os p cf b st) {q:K2} {l:Nat} (hd:∀ w,w<p.m->p.dst w≠some q) (h2:l≤p.sk.length):Bi q (st l).t=Bi q (st 0).t :=
 (r.keep (Nat.zero_le _) h2 fun l' h3 h4 x i hx hi e=>hd i (r.good.uniq l' x i hx hi).1 e).symm
theorem bat_succ {l:Nat} {x:SI} (hx:p.sk[l]? = some x):p.bat (l+1)=p.bat l+if x.isEf then 1 else 0:=by
 unfold Plot.bat
 rw [List.take_add_one,hx]
 simp only [Option.toList_some,List.filter_append,List.length_append]
 cases hx:x.isEf <;> simp [hx]
theorem bat_mono {l1 l2:Nat} (h:l1≤l2) (h2:l2≤p.sk.length):p.bat l1≤p.bat l2:=by
 induction l2 with
 | zero =>
  have:l1=0:=by omega
  subst this; exact Nat.le_refl _
 | succ l2 ih =>
  by_cases e:l1=l2+1
  ·subst e; exact Nat.le_refl _
  ·have:=ih (by omega) (by omega)
   rw [bat_succ (List.getElem?_eq_getElem (show l2<p.sk.length by omega))]
   omega
theorem same_batch (r:Rn P N ops os p cf b st) {l1 l2:Nat} (h:l1≤l2) (h2:l2≤p.sk.length) (hb:p.bat l1=p.bat l2):(st l1).h0=(st l2).h0∧(st l1).n=(st l2).n:=by
 induction l2 with
 | zero =>
  have:l1=0:=by omega
  subst this; exact ⟨rfl,rfl⟩
 | succ l2 ih =>
  by_cases e:l1=l2+1
  ·subst e; exact ⟨rfl,rfl⟩
  ·have hx:p.sk[l2]? = some p.sk[l2]:=List.getElem?_eq_getElem (by omega)
   have h3:=bat_mono (p:=p) (show l1≤l2 by omega) (by omega)
   have h4:=bat_succ hx
   have hne:(p.sk[l2]'(by omega)).isEf=false:=by
    cases hh:(p.sk[l2]'(by omega)).isEf with
    | false=>rfl
    | true=>rw [hh] at h4; simp at h4; omega
   obtain ⟨e1,e2⟩:=ih (by omega) (by omega) (by rw [hne] at h4; simp at h4; omega)
   have hs:=r.step l2 _ hx
   have:(st (l2+1)).h0=(st l2).h0∧(st (l2+1)).n=(st l2).n:=by
    revert hs hne
    generalize (p.sk[l2]'(by omega))=x
    intro hne hs
    cases x with
    | rd i=>rcases hs with ⟨_,v,h,n,_,e⟩ | ⟨_,e⟩ <;> rw [e] <;> exact ⟨rfl,rfl⟩
    | ef i=>cases hne
    | al i j=>rcases hs with ⟨_,_,v,h,n,_,e⟩ | ⟨_,e⟩ <;> rw [e] <;> exact ⟨rfl,rfl⟩
    | ck i=>rw [hs.1]; exact ⟨rfl,rfl⟩
    | no j=>rw [hs.1]; exact ⟨rfl,rfl⟩
    | rn i a j=>rcases hs with ⟨_,ob,v,h,n,_,_,e⟩ | ⟨_,e⟩ <;> rw [e] <;> exact ⟨rfl,rfl⟩
   exact ⟨e1.trans this.1.symm,e2.trans this.2.symm⟩
theorem ef_at {l j:Nat} (hl:l≤p.sk.length) (h:j<p.bat l):∃ l' e,l'<l∧p.sk[l']? = some (SI.ef e)∧p.bat l'=j:=by
 induction l with
 | zero=>simp [Plot.bat] at h
 | succ l ih =>
  have hx:p.sk[l]? = some p.sk[l]:=List.getElem?_eq_getElem (by omega)
  have h4:=bat_succ hx
  by_cases hj:j<p.bat l
  ·obtain ⟨l',e,h1,h2,h3⟩:=ih (by omega) hj
   exact ⟨l',e,by omega,h2,h3⟩
  ·revert h4 hx
   generalize (p.sk[l]'(by omega))=x
   intro hx h4
   cases x with
   | ef e=>simp [SI.isEf] at h4; exact ⟨l,e,by omega,hx,by omega⟩
   | _=>simp [SI.isEf] at h4; omega
end Rn
end
end Go.Ev

namespace Go.Ev
set_option linter.unusedVariables false
section
variable {P:Program} {ρ:Env} {B N:Nat} {ops:Array Oper} {os:List AOp} {p:Plot} {b:K4} {cf:CF} {st:Nat->St}
theorem Ck {o:AOp} {t t':Regs} (h:∀ q∈o.slots,Bi q t=Bi q t'):Oo t t' o.k.opds ∧ ∀ y n,CK o.g t y n=CK o.g t' y n:=by
 refine ⟨fun x hx=>?_,fun y n=>N8 (fun q w hg=>h q ?_) y n⟩
 ·cases x with
  | c v=>rfl
  | t q=>exact h q (List.mem_append_left _ (List.mem_filterMap.2 ⟨.t q,hx,rfl⟩))
 ·refine List.mem_append_right _ ?_
  rw [hg]; simp
theorem Ii (j:D) (hb:b.d = .d0):(E1 b j).toN=b.toN+j.toN:=by
 obtain ⟨a,c,d,e⟩:=b
 simp only at hb; subst hb
 simp [E1,K4.toN,D.toN]
theorem JB {i j:D} (h:E1 b i=E1 b j):i=j:=by simp only [E1,K4.mk.injEq,true_and] at h; exact h
def Ta (p:Plot) (st:Nat->St) (S:Nat->Bool) (t:Regs):Prop :=
 ∀ q,(∀ w,w<p.m->p.dst w=some q->(S w=true->Bi q t=Bi q (st p.sk.length).t)∧(S w=false->Bi q t=Bi q (st 0).t)) ∧
  ((∀ w,w<p.m->p.dst w≠some q)->Bi q t=Bi q (st 0).t)
namespace Rn
theorem agree (r:Rn P N ops os p cf b st) {S:Nat->Bool} {t:Regs} (hR:Ta p st S t) {i:Nat} (hi:i<p.m) (ha:∀ d,d<p.m->p.anc i d=true->S d=true) (hd:∀ w,w<p.m->p.anc w i=true->S w=false)
  {l:Nat} (hl:l=p.pos i∨p.sk[l]? = some (.ck i)):∀ q∈p.slots i,Bi q t=Bi q (st l).t:=by
 have hL:l<p.sk.length∧p.pos i≤l:=by
  rcases hl with rfl | hl
  ·rcases r.good.pos i hi with ⟨h,_⟩ | ⟨j,h,_⟩ | ⟨h | ⟨_,_,h⟩,_⟩ <;> exact ⟨Plot.sk_lt h,Nat.le_refl _⟩
  ·exact ⟨Plot.sk_lt hl,Nat.le_of_lt (r.good.ck l i hl).2.1⟩
 intro q hq
 by_cases hw:∃ w,w<p.m∧p.dst w=some q
 ·obtain ⟨w,hw,hdw⟩:=hw
  obtain ⟨hne,h | ⟨h1,h2,h3⟩⟩:=r.good.slots i w q hi hw hdw hq
  ·rw [((hR q).1 w hw hdw).1 (ha w hw h.1)]
   exact (r.reg_after hw hdw (by omega) (by omega)).symm
  ·rw [((hR q).1 w hw hdw).2 (hd w hw h1)]
   refine (r.reg_before hw hdw ?_ (by omega)).symm
   rcases hl with rfl | hl
   ·omega
   ·exact Nat.le_of_lt (h3 l hl)
 ·have hn:∀ w,w<p.m->p.dst w≠some q:=fun w h1 h2=>hw ⟨w,h1,h2⟩
  rw [(hR q).2 hn]
  exact (r.reg_free hn (by omega)).symm
theorem regS_put (r:Rn P N ops os p cf b st) {S:Nat->Bool} {t:Regs} (hR:Ta p st S t) {i:Nat} (hi:i<p.m) {v:V} (hv:(st (p.pos i+1)).t=Dd (p.dst i) (st (p.pos i)).t v) :
  Ta p st (fun j=>S j || Nat.beq i j) (Dd (p.dst i) t v):=by
 have hL:p.pos i<p.sk.length:=by
  rcases r.good.pos i hi with ⟨h,_⟩ | ⟨j,h,_⟩ | ⟨h | ⟨_,_,h⟩,_⟩ <;> exact Plot.sk_lt h
 have hbeq:Nat.beq i i=true:=by simp
 cases hd:p.dst i with
 | none =>
  intro q
  refine ⟨fun w hw hdw=>?_,(hR q).2⟩
  have hne:i≠w:=fun e=>by subst e; rw [hd] at hdw; cases hdw
  have hb:Nat.beq i w=false:=by cases h:Nat.beq i w with
   | false=>rfl
   | true=>exact absurd (Nat.eq_of_beq_eq_true h) hne
  simp only [hb,Bool.or_false]
  exact (hR q).1 w hw hdw
 | some d =>
  rw [hd] at hv
  have last:Bi d (st p.sk.length).t=v:=by
   rw [←r.reg_after hi hd (l:=p.pos i+1) (by omega) (by omega),hv]
   exact Be _ _ _
  intro q
  by_cases e:d=q
  ·subst e
   refine ⟨fun w hw hdw=>?_,fun h=>absurd hd (h i hi)⟩
   have:=r.good.dst w i d hw hi hdw hd
   subst this
   refine ⟨fun _=>?_,fun h=>by simp at h⟩
   rw [last]; exact Be _ _ _
  ·have e1:Bi q (Dd (some d) t v)=Bi q t:=Bv _ _ e
   rw [e1]
   refine ⟨fun w hw hdw=>?_,(hR q).2⟩
   have hne:i≠w:=fun e'=>by subst e'; rw [hd] at hdw; cases hdw; exact e rfl
   have hb:Nat.beq i w=false:=by cases h:Nat.beq i w with
    | false=>rfl
    | true=>exact absurd (Nat.eq_of_beq_eq_true h) hne
   simp only [hb,Bool.or_false]
   exact (hR q).1 w hw hdw
theorem al_step (r:Rn P N ops os p cf b st) (hρ:Bq ρ) {i:Nat} {d:D} (hi:i<p.m) (hp:p.sk[p.pos i]? = some (.al i d)) :
  (Fe (os.getD i C6).g (st (p.pos i)).t∧AL (E1 b d) (st (p.pos i)).h1=none ∧ ∃ v ob n,H6 (os.getD i C6).k cf (st (p.pos i)).t (st (p.pos i)).h1 (E1 b d) R.rv = .rv v (B5 (E1 b d) (st (p.pos i)).h1 (some ob)) n ∧
    st (p.pos i+1)=⟨Dd (p.dst i) (st (p.pos i)).t v,(st (p.pos i)).h0,B5 (E1 b d) (st (p.pos i)).h1 (some ob),(st (p.pos i)).n⟩) ∨
  (PZ (os.getD i C6).g (st (p.pos i)).t∧st (p.pos i+1)=⟨Dd (p.dst i) (st (p.pos i)).t Cf,(st (p.pos i)).h0,(st (p.pos i)).h1,(st (p.pos i)).n⟩):=by
 have hs:=r.step _ _ hp
 obtain ⟨o,ao,h1,h2,h3,h4,h5,h6,h7,h8⟩:=r.get hi
 have hsort:p.sort i=2:=by
  rcases r.good.pos i hi with ⟨h,_⟩ | ⟨j,h,hh⟩ | ⟨h | ⟨_,_,h⟩,_⟩
  ·rw [hp] at h; cases h
  ·exact hh
  ·rw [hp] at h; cases h
  ·rw [hp] at h; cases h
 rw [r.dst_eq]
 rcases hs with ⟨hy,hn,v,h,n,e1,e2⟩ | ⟨hn,e2⟩
 ·refine .inl ⟨hy,hn,?_⟩
  rw [h3] at e1 e2 ⊢
  have hk:Fa P N o=some ao.k:=by
   rcases (BG h4).2.2 with hk | ⟨why,hk⟩
   ·exact hk
   ·rw [h5,hk] at hsort; cases hsort
  obtain ⟨v',ob,n',e3,_⟩:=JR (P:=P) (ρ:=ρ) (N:=N) (cf:=cf) (t:=(st (p.pos i)).t) (h:=(st (p.pos i)).h1) (n:=E1 b d) hρ hk (by rw [←h5]; exact hsort) R.rv (by rw [e1]; trivial)
  rw [e1] at e3
  cases e3
  exact ⟨_,_,_,e1,e2⟩
 ·exact .inr ⟨hn,e2⟩
end Rn
end
end Go.Ev

namespace Go.Ev
set_option linter.unusedVariables false
section
variable {P:Program} {ρ:Env} {B N:Nat} {ops:Array Oper} {os:List AOp} {p:Plot} {b:K4} {cf:CF} {st:Nat->St}
def X8 (os:List AOp) (p:Plot) (b:K4) (st:Nat->St) (l:Nat) (q:K4):Prop :=
 ∃ i d,i<p.m∧p.sk[p.pos i]? = some (.al i d)∧p.pos i<l∧p.bat (p.pos i)=p.bat l∧q=E1 b d∧Fe (os.getD i C6).g (st (p.pos i)).t∧AL q (st l).h1=AL q (st (p.pos i+1)).h1
namespace Rn
theorem h1_at (r:Rn P N ops os p cf b st) (hρ:Bq ρ) (h0:(st 0).h1=(st 0).h0) (q:K4):∀ {l:Nat},l≤p.sk.length->AL q (st l).h1=AL q (st l).h0∨X8 os p b st l q:=by
 intro l
 induction l with
 | zero=>intro _; rw [h0]; exact .inl rfl
 | succ l ih =>
  intro hL
  have ih:=ih (by omega)
  cases hx:p.sk[l]? with
  | none=>rw [List.getElem?_eq_none_iff] at hx; omega
  | some x =>
   have hs:=r.step l x hx
   have hb:=bat_succ hx
   -- nothing has moved
   have still:(st (l+1)).h1=(st l).h1->(st (l+1)).h0=(st l).h0->x.isEf=false->AL q (st (l+1)).h1=AL q (st (l+1)).h0∨X8 os p b st (l+1) q:=fun e1 e0 hne=>by
    rw [hne] at hb; simp at hb
    rcases ih with h | ⟨i,d,a1,a2,a3,a4,a5,a6,a7⟩
    ·rw [e1,e0]; exact .inl h
    ·exact .inr ⟨i,d,a1,a2,by omega,by rw [hb]; exact a4,a5,a6,by rw [e1]; exact a7⟩
   cases x with
   | rd i=>rcases hs with ⟨_,v,h,n,_,e⟩ | ⟨_,e⟩ <;> exact still (by rw [e]) (by rw [e]) rfl
   | ef i=>rcases hs with ⟨_,v,h,n,_,e⟩ | ⟨_,e⟩ <;> (rw [e]; exact .inl rfl)
   | ck i=>exact still (by rw [hs.1]) (by rw [hs.1]) rfl
   | no j=>exact still (by rw [hs.1]) (by rw [hs.1]) rfl
   | rn i a j=>rcases hs with ⟨_,ob,v,h,n,_,_,e⟩ | ⟨_,e⟩ <;> exact still (by rw [e]) (by rw [e]) rfl
   | al i d =>
    obtain ⟨hm,hp⟩:=r.good.uniq l _ i hx rfl
    subst hp
    rcases r.al_step hρ hm hx with ⟨hy,hn,v,ob,n,e1,e2⟩ | ⟨hn,e2⟩
    ·by_cases hq:E1 b d=q
     ·refine .inr ⟨i,d,hm,hx,by omega,by rw [hb]; simp [SI.isEf],hq.symm,hy,rfl⟩
     ·have e3:AL q (st (p.pos i+1)).h1=AL q (st (p.pos i)).h1:=by rw [e2]; exact As _ _ hq
      have e4:(st (p.pos i+1)).h0=(st (p.pos i)).h0:=by rw [e2]
      have hb':p.bat (p.pos i+1)=p.bat (p.pos i):=by rw [hb]; simp [SI.isEf]
      rcases ih with h | ⟨i',d',a1,a2,a3,a4,a5,a6,a7⟩
      ·rw [e3,e4]; exact .inl h
      ·exact .inr ⟨i',d',a1,a2,by omega,by rw [hb']; exact a4,a5,a6,by rw [e3]; exact a7⟩
    ·exact still (by rw [e2]) (by rw [e2]) rfl
theorem Ac4 (r:Rn P N ops os p cf b st) (hρ:Bq ρ) {i:Nat} {d:D} (hi:i<p.m) (hp:p.sk[p.pos i]? = some (.al i d)) (hy:Fe (os.getD i C6).g (st (p.pos i)).t):∃ ob,AL (E1 b d) (st (p.pos i+1)).h1=some ob:=by
 rcases r.al_step hρ hi hp with ⟨_,hn,v,ob,n,e1,e2⟩ | ⟨hn,e2⟩
 ·exact ⟨ob,by rw [e2]; exact AF _ _ _⟩
 ·have:=(hy (.fail "") (.ok .nrm Ez AT b)).symm.trans (hn _ _)
  cases this
end Rn
def Plot.HasAl (p:Plot):Prop:=∃ i d,i<p.m∧p.sk[p.pos i]? = some (.al i d)
structure Inv (P:Program) (ρ:Env) (B N:Nat) (os:List AOp) (p:Plot) (b:K4) (st:Nat->St) (h:Heap) (φ0:B6) (n:K4) (w0:World) (S:Nat->Bool) (a:Act) (w:World) (l:Nat) (φ:B6):Prop where
 le:l≤p.sk.length
 closed:∀ i d,i<p.m->S i=true->d∈p.deps i->S d=true
 effs:∀ e,e<p.m->p.sort e=3->(S e=true ↔ p.bat (p.pos e)<p.bat l)
 regs:∃ t,Ta p st S t∧TR ρ N φ t a
 gam:Gam ρ B (st l).h0 (st l).n φ w
 fr:Fr h (st l).h0 φ0 φ n (st l).n w0 w
 room:p.HasAl->b.toN+16≤(st l).n.toN
 kept:∀ i d,i<p.m->p.sk[p.pos i]? = some (.al i d)->p.bat l≤p.bat (p.pos i)->Fe (os.getD i C6).g (st (p.pos i)).t->S i=true →
  ∃ bk tot ob,φ (E1 b d)=some (bk,0,tot)∧AL (E1 b d) (st (p.pos i+1)).h1=some ob∧BP ob=none∧Fg ρ φ w ob bk 0 tot ∧ ∀ q x y,φ q=some (bk,x,y)->q=E1 b d
 free:∀ i d,i<p.m->p.sk[p.pos i]? = some (.al i d)->S i=false->φ (E1 b d)=none
end
end Go.Ev

namespace Go.Ev
set_option linter.unusedVariables false
section
variable {P:Program} {ρ:Env} {B N:Nat} {ops:Array Oper} {os:List AOp} {p:Plot} {b:K4} {cf:CF} {st:Nat->St} {h:Heap} {φ0:B6} {n:K4} {w0:World}
theorem WX {k:AK} (hs:k.sort=0) {t:Regs} {h h':Heap} {n n':K4}:H6 k cf t h n JE=H6 k cf t h' n' JE:=by
 cases k <;> first | rfl | (simp [AK.sort] at hs)
theorem TA (p:Plot):p.effs.length=(p.sk.filter SI.isEf).length:=by
 unfold Plot.effs
 generalize p.sk=l
 induction l with
 | nil=>rfl
 | cons x l ih=>cases x <;> simp [List.filterMap_cons,List.filter_cons,SI.isEf] <;> exact ih
theorem IN (l:Nat):p.bat l≤p.effs.length:=by
 rw [TA]
 unfold Plot.bat
 exact (List.Sublist.filter _ (List.take_sublist l p.sk)).length_le
def Gd (S:Nat->Bool) (i:Nat):Nat->Bool:=fun j=>S j || Nat.beq i j
theorem D0 {S:Nat->Bool} {i j:Nat} (h:i≠j):Gd S i j=S j:=by
 unfold Gd
 cases hb:Nat.beq i j with
 | false=>simp
 | true=>exact absurd (Nat.eq_of_beq_eq_true hb) h
theorem GQ {S:Nat->Bool} {i:Nat}:Gd S i i=true:=by simp [Gd]
theorem Cw (G:p.Good) {S:Nat->Bool} (hc:∀ i d,i<p.m->S i=true->d∈p.deps i->S d=true):∀ (i d:Nat),i<p.m->d<p.m->(∀ c∈p.deps i,S c=true)->p.anc i d=true->S d=true:=by
 intro i
 induction i using Nat.strongRecOn with
 | _ i ih =>
  intro d hi hd hS ha
  rcases G.anc i d hi hd ha with h | ⟨c,hcd,h⟩
  ·exact hS d h
  ·have hlt:=G.deps i c hi hcd
   exact ih c hlt d (by omega) hd (fun e he=>hc c e (by omega) (hS c hcd) he) h
theorem Ei {o:Oper} {i:Nat} {a:Act} {w:World} {K:Act->World->Prop} {Q:Exit->Act->World->Prop} (ho:ops[i]? = some o) (h:C4 P ops o a w K Q):wpOp P ops Q i K a w:=by
 unfold wpOp
 rw [ho]
 unfold C4 at h
 simp only
 split
 ·rename_i hw; rw [if_pos hw] at h; exact .inl h
 ·rename_i hw; rw [if_neg hw] at h; exact h
theorem Ct {o:Oper} {ao:AOp} (hc:Jc P N ops o=some ao) {t:Regs}:(Fe ao.g t->∀ φ a,TR ρ N φ t a->Region.wanted o (yielded ops a.tmps)=true)∧(PZ ao.g t->∀ φ a,TR ρ N φ t a->Region.wanted o (yielded ops a.tmps)=false):=by
 obtain ⟨_,hg,_⟩:=BG hc
 constructor
 ·intro hy
  rcases Gu (ρ:=ρ) (o:=o) (yes:=.ok .nrm Ez AT ⟨.d0,.d0,.d0,.d0⟩) (no:=.fail "") (by rw [hy]; trivial) hg with ⟨_,h⟩ | ⟨e,_⟩
  ·exact h
  ·rw [hy] at e; cases e
 ·intro hn
  rcases Gu (ρ:=ρ) (o:=o) (yes:=.fail "") (no:=.ok .nrm Ez AT ⟨.d0,.d0,.d0,.d0⟩) (by rw [hn]; trivial) hg with ⟨e,_⟩ | ⟨_,h⟩
  ·rw [hn] at e; cases e
  ·exact h
theorem Inv.keep1 {S:Nat->Bool} {a a':Act} {w:World} {l:Nat} {φ:B6} (I:Inv P ρ B N os p b st h φ0 n w0 S a w l φ) {i:Nat} (hi:i<p.m) (hS:S i=false) (hd:∀ d∈p.deps i,S d=true) (hso:p.sort i≠3)
  (hal:∀ d,p.sk[p.pos i]? = some (.al i d)->¬ Fe (os.getD i C6).g (st (p.pos i)).t)
  (hR:∃ t,Ta p st (Gd S i) t∧TR ρ N φ t a'):Inv P ρ B N os p b st h φ0 n w0 (Gd S i) a' w l φ where
 le:=I.le
 closed:=fun j d hj hs hd'=>by
  by_cases e:i=j
  ·subst e
   have:=hd d hd'
   unfold Gd; rw [this]; rfl
  ·rw [D0 e] at hs
   have:=I.closed j d hj hs hd'
   unfold Gd; rw [this]; rfl
 effs:=fun e he hs=>by rw [D0 (fun (h:i=e)=>hso (by rw [h]; exact hs))]; exact I.effs e he hs
 regs:=hR
 gam:=I.gam
 fr:=I.fr
 room:=I.room
 kept:=fun j d hj hp hb hy hs=>by
  by_cases e:i=j
  ·subst e; exact absurd hy (hal d hp)
  ·rw [D0 e] at hs; exact I.kept j d hj hp hb hy hs
 free:=fun j d hj hp hs=>by
  by_cases e:i=j
  ·subst e; rw [GQ] at hs; cases hs
  ·rw [D0 e] at hs; exact I.free j d hj hp hs
theorem Inv.step_rd (r:Rn P N ops os p cf b st) (hρ:Bq ρ) {S:Nat->Bool} {a:Act} {w:World} {l:Nat} {φ:B6} (I:Inv P ρ B N os p b st h φ0 n w0 S a w l φ) {i:Nat} (hi:i<p.m) (hS:S i=false) (hd:∀ d∈p.deps i,S d=true)
  (hp:p.sk[p.pos i]? = some (.rd i)) (hso:p.sort i≤1) {K:Act->World->Prop} {Q:Exit->Act->World->Prop} (hK:∀ a' w' l' φ',Inv P ρ B N os p b st h φ0 n w0 (Gd S i) a' w' l' φ'->K a' w'):wpOp P ops Q i K a w:=by
 obtain ⟨o,ao,ho1,ho2,ho3,ho4,ho5,ho6,ho7,ho8⟩:=r.get hi
 obtain ⟨t,hR,hT⟩:=I.regs
 have hanc:∀ d,d<p.m->p.anc i d=true->S d=true:=fun d hdm ha=>Cw r.good I.closed i d hi hdm hd ha
 have hdes:∀ e,e<p.m->p.anc e i=true->S e=false:=fun e he ha=>by
  cases hSe:S e with
  | false=>rfl
  | true =>
   have:=Cw r.good I.closed e i he hi (fun c hc=>I.closed e c he hSe hc) ha
   rw [hS] at this; cases this
 have hal:∀ d,p.sk[p.pos i]? = some (.al i d)->¬ Fe (os.getD i C6).g (st (p.pos i)).t:=fun d hpd=>by rw [hp] at hpd; cases hpd
 have agA:=Ck (o:=ao) (t:=t) (t':=(st (p.pos i)).t) (fun q hq=>r.agree hR hi hanc hdes (.inl rfl) q (by rw [ho7]; exact hq))
 have hs:=r.step _ _ hp
 have hs:(Fe (os.getD i C6).g (st (p.pos i)).t ∧ ∃ v h n,H6 (os.getD i C6).k cf (st (p.pos i)).t (st (p.pos i)).h0 (st (p.pos i)).n JE = .rv v h n∧st (p.pos i+1)=⟨Dd (os.getD i C6).dst (st (p.pos i)).t v,(st (p.pos i)).h0,(st (p.pos i)).h1,(st (p.pos i)).n⟩)∨(PZ (os.getD i C6).g (st (p.pos i)).t∧st (p.pos i+1)=⟨Dd (os.getD i C6).dst (st (p.pos i)).t Cf,(st (p.pos i)).h0,(st (p.pos i)).h1,(st (p.pos i)).n⟩):=hs
 rw [ho3] at hs
 refine Ei ho1 ?_
 rcases hs with ⟨hy,v,h',n',e1,e2⟩ | ⟨hn,e2⟩
 ·have hy':Fe ao.g t:=fun y n=>(agA.2 y n).trans (hy y n)
  have hv:(st (p.pos i+1)).t=Dd (p.dst i) (st (p.pos i)).t v:=by rw [e2,ho6]
  -- the value,read here
  have here:∃ h'' n'',H6 ao.k cf t (st l).h0 (st l).n JE = .rv v h'' n'':=by
   rcases Nat.lt_or_ge (p.sort i) 1 with h0 | h0
   ·rw [Do agA.1,WX (k:=ao.k) (by rw [←ho5]; omega) (h':=(st (p.pos i)).h0) (n':=(st (p.pos i)).n)]
    exact ⟨_,_,e1⟩
   ·have hbk:p.bat l≤p.effs.length:=IN l
    rcases r.good.read i (p.bat l) hi (by omega) hbk with ⟨e,he,hse,h3 | h3⟩ | ⟨a',d',hq,_⟩ | ⟨l',x,hbl,hx,hxr⟩
    ·have:=(I.effs e he hse).1 (hanc e he h3.1); omega
    ·have:=(I.effs e he hse).2 h3.2
     rw [hdes e he h3.1] at this; cases this
    ·rw [hp] at hq; cases hq
    ·have hsb:(st l').h0=(st l).h0∧(st l').n=(st l).n:=by
      rcases Nat.le_total l' l with hle | hle
      ·exact r.same_batch hle I.le hbl
      ·obtain ⟨q1,q2⟩:=r.same_batch hle (Nat.le_of_lt (Plot.sk_lt hx)) hbl.symm
       exact ⟨q1.symm,q2.symm⟩
     cases x with
     | rd i' =>
      simp only [SI.reads,Option.some.injEq] at hxr; subst hxr
      obtain ⟨_,hpl⟩:=r.good.uniq l' _ i' hx rfl
      subst hpl
      rw [Do agA.1,←hsb.1,←hsb.2]
      exact ⟨_,_,e1⟩
     | ck i' =>
      simp only [SI.reads,Option.some.injEq] at hxr; subst hxr
      have agB:=Ck (o:=ao) (t:=t) (t':=(st l').t) (fun q hq=>r.agree hR hi hanc hdes (.inr hx) q (by rw [ho7]; exact hq))
      have hc:=(r.step _ _ hx).2
      rw [ho3] at hc
      rcases hc with ⟨_,q,h3,n3,hq,e3⟩ | hn
      ·rw [Do agB.1,←hsb.1,←hsb.2]
       have hpl:=(r.good.ck l' i' hx).2.1
       have hdq:p.dst i'=some q:=by rw [ho6]; exact hq
       have e4:Bi q (st l').t=v:=by
        rw [r.reg_after hi hdq hpl (Nat.le_of_lt (Plot.sk_lt hx)),←r.reg_after hi hdq (l:=p.pos i'+1) (by omega) (by have:=Plot.sk_lt hp; omega),hv,hdq]
        exact Be _ _ _
       rw [e4] at e3
       exact ⟨_,_,e3⟩
      ·have:=(hy' (.fail "") (.ok .nrm Ez AT b)).symm.trans ((agB.2 _ _).trans (hn _ _))
       cases this
     | _=>cases hxr
  obtain ⟨h'',n'',e3⟩:=here
  have hk:Fa P N o=some ao.k:=by
   rcases (BG ho4).2.2 with hk | ⟨why,hk⟩
   ·exact hk
   ·rw [hk] at e3; cases e3
  obtain ⟨v',e4,hpure⟩:=LP (P:=P) (ρ:=ρ) (B:=B) (N:=N) (cf:=cf) (t:=t) (h:=(st l).h0) (n:=(st l).n) hρ hk (by rw [←ho5]; exact hso) JE (by rw [e3]; trivial)
  rw [e3] at e4
  cases e4
  obtain ⟨x,hx,hrx⟩:=hpure φ a w hT I.gam
  unfold C4
  rw [if_pos ((Ct (ρ:=ρ) ho4).1 hy' φ a hT)]
  unfold Oper.wp
  rw [hx]
  refine hK _ w l φ (I.keep1 hi hS hd (by omega) hal ⟨_,r.regS_put hR hi hv,?_⟩)
  rw [ho6]
  exact hT.puts (BG ho4).1 hrx
 ·have hn':PZ ao.g t:=fun y n=>(agA.2 y n).trans (hn y n)
  have hv:(st (p.pos i+1)).t=Dd (p.dst i) (st (p.pos i)).t Cf:=by rw [e2,ho6]
  unfold C4
  rw [if_neg (by rw [(Ct (ρ:=ρ) ho4).2 hn' φ a hT]; simp)]
  refine hK _ w l φ (I.keep1 hi hS hd (by omega) hal ⟨_,r.regS_put hR hi hv,?_⟩)
  rw [ho6]
  exact hT.puts (BG ho4).1 DN
theorem Inv.step_al (r:Rn P N ops os p cf b st) (hρ:Bq ρ) (hb0:p.HasAl->b.d = .d0) (hbn:p.HasAl->n.toN≤b.toN) {S:Nat->Bool} {a:Act} {w:World} {l:Nat} {φ:B6} (I:Inv P ρ B N os p b st h φ0 n w0 S a w l φ) {i:Nat} {d:D} (hi:i<p.m) (hS:S i=false) (hd:∀ d∈p.deps i,S d=true)
  (hp:p.sk[p.pos i]? = some (.al i d)) (hso:p.sort i=2) {K:Act->World->Prop} {Q:Exit->Act->World->Prop} (hK:∀ a' w' l' φ',Inv P ρ B N os p b st h φ0 n w0 (Gd S i) a' w' l' φ'->K a' w'):wpOp P ops Q i K a w:=by
 obtain ⟨o,ao,ho1,ho2,ho3,ho4,ho5,ho6,ho7,ho8⟩:=r.get hi
 obtain ⟨t,hR,hT⟩:=I.regs
 have hanc:∀ d,d<p.m->p.anc i d=true->S d=true:=fun d hdm ha=>Cw r.good I.closed i d hi hdm hd ha
 have hdes:∀ e,e<p.m->p.anc e i=true->S e=false:=fun e he ha=>by
  cases hSe:S e with
  | false=>rfl
  | true =>
   have:=Cw r.good I.closed e i he hi (fun c hc=>I.closed e c he hSe hc) ha
   rw [hS] at this; cases this
 have agA:=Ck (o:=ao) (t:=t) (t':=(st (p.pos i)).t) (fun q hq=>r.agree hR hi hanc hdes (.inl rfl) q (by rw [ho7]; exact hq))
 have hs:=r.al_step hρ hi hp
 rw [ho3] at hs
 refine Ei ho1 ?_
 rcases hs with ⟨hy,hn0,v,ob,n',e1,e2⟩ | ⟨hn,e2⟩
 ·have hy':Fe ao.g t:=fun y n=>(agA.2 y n).trans (hy y n)
  have hv:(st (p.pos i+1)).t=Dd (p.dst i) (st (p.pos i)).t v:=by rw [e2]
  have hk:Fa P N o=some ao.k:=by
   rcases (BG ho4).2.2 with hk | ⟨why,hk⟩
   ·exact hk
   ·rw [hk] at e1; cases e1
  have e3:H6 ao.k cf t (st (p.pos i)).h1 (E1 b d) R.rv = .rv v (B5 (E1 b d) (st (p.pos i)).h1 (some ob)) n':=(Do agA.1).trans e1
  obtain ⟨v',ob',n'',e4,hal⟩:=JR (P:=P) (ρ:=ρ) (N:=N) (cf:=cf) (t:=t) (h:=(st (p.pos i)).h1) (n:=E1 b d) hρ hk (by rw [←ho5]; exact hso) R.rv (by rw [e3]; trivial)
  rw [e3] at e4
  simp only [R.rv.injEq] at e4
  obtain ⟨rfl,e5,rfl⟩:=e4
  have hob:ob=ob':=by
   have:=congrArg (AL (E1 b d)) e5
   rw [AF,AF] at this
   simpa using this
  subst hob
  have hφ:=I.free i d hi hp hS
  obtain ⟨x,O,tot,w1,hx,hw1,hrx,hobk⟩:=hal.run φ a w hT hφ
  -- it is not too late for it
  have hbl:p.bat l≤p.bat (p.pos i):=by
   rcases Nat.lt_or_ge (p.bat (p.pos i)) (p.bat l) with h' | h'
   ·obtain ⟨e,he,hse,ha,hlt⟩:=(r.good.al i d hi hp (p.bat l) (IN l)).2 h'
    have:=(I.effs e he hse).2 hlt
    rw [hdes e he ha] at this; cases this
   ·exact h'
  have hfree:AL (E1 b d) (st l).h0=none:=by
   obtain ⟨l',hb',hx'⟩:=(r.good.al i d hi hp (p.bat l) (IN l)).1 hbl
   have hno:=(r.step _ _ hx').2
   rcases Nat.le_total l' l with hle | hle
   ·rw [←(r.same_batch hle I.le hb').1]; exact hno
   ·rw [(r.same_batch hle (Nat.le_of_lt (Plot.sk_lt hx')) hb'.symm).1]; exact hno
  have hA:p.HasAl:=⟨i,d,hi,hp⟩
  have hrn:(E1 b d).toN<(st l).n.toN:=by
   rw [Ii d (hb0 hA)]; have:=I.room hA; have:=D.toN_lt d; omega
  have hrb:n.toN≤(E1 b d).toN:=by rw [Ii d (hb0 hA)]; have:=hbn hA; omega
  have hw1h:w1.heap=w.heap:=by rcases hw1 with e | e <;> rw [e] <;> rfl
  have hw1s:w1.heap.size=w.heap.size:=by rw [hw1h]
  have g1:Gam ρ B (st l).h0 (st l).n φ w1:=by
   rcases hw1 with e | e
   ·rw [e]; exact I.gam
   ·rw [e]; exact I.gam.drew
  have f1:Fr h (st l).h0 φ0 φ n (st l).n w0 w1:=by
   rcases hw1 with e | e
   ·rw [e]; exact I.fr
   ·rw [e]; exact I.fr.drewR
  have g2:=g1.hide hφ hrn hfree O tot
  have f2:=f1.hide hφ hrb hrn O tot
  rw [hw1s] at g2 f2
  unfold C4
  rw [if_pos ((Ct (ρ:=ρ) ho4).1 hy' φ a hT)]
  unfold Oper.wp
  rw [hx]
  have hle:B6.le φ (E5 φ (E1 b d) (w.heap.size,0,tot)):=CN hφ
  refine hK _ _ l (E5 φ (E1 b d) (w.heap.size,0,tot)) {
   le:=I.le
   closed:=fun j c hj hs hc=>by
    by_cases e:i=j
    ·subst e; have:=hd c hc; unfold Gd; rw [this]; rfl
    ·rw [D0 e] at hs; have:=I.closed j c hj hs hc; unfold Gd; rw [this]; rfl
   effs:=fun e he hs=>by rw [D0 (fun (h:i=e)=>by rw [h] at hso; omega)]; exact I.effs e he hs
   regs:=⟨_,r.regS_put hR hi hv,by rw [ho6]; exact (hT.mono hle).puts (BG ho4).1 hrx⟩
   gam:=g2
   fr:=f2
   room:=I.room
   kept:=fun j c hj hpj hbj hyj hs=>by
    by_cases e:i=j
    ·subst e
     rw [hp] at hpj; cases hpj
     refine ⟨w.heap.size,tot,ob,BR _ _ _,by rw [e2]; exact AF _ _ _,hal.prev,hobk _ _ hle (by rw [←hw1s]; exact HS),fun q x y hq=>?_⟩
     rcases AW hq with ⟨h',_⟩ | ⟨_,hq⟩
     ·exact h'.symm
     ·have:=(I.gam.blk q _ x y hq).2; omega
    ·rw [D0 e] at hs
     obtain ⟨bk,tot',ob',k1,k2,k3,k4,k5⟩:=I.kept j c hj hpj hbj hyj hs
     have hne:E1 b d≠E1 b c:=fun h'=>r.good.alD i j d c hi hj e hp hpj (JB h')
     have hbk:=(I.gam.blk _ _ _ _ k1).2
     refine ⟨bk,tot',ob',by rw [GS hne]; exact k1,k2,k3,Ca (w:=w) ?_ (DX hle k4),fun q x y hq=>?_⟩
     ·rw [Go.RowKit.Below.heap_alloc w1 O bk (by rw [hw1s]; exact hbk),hw1h]
     ·rcases AW hq with ⟨_,h'⟩ | ⟨_,hq⟩
      ·simp only [Prod.mk.injEq] at h'; omega
      ·exact k5 q x y hq
   free:=fun j c hj hpj hs=>by
    by_cases e:i=j
    ·subst e; rw [GQ] at hs; cases hs
    ·rw [D0 e] at hs
     have hne:E1 b d≠E1 b c:=fun h'=>r.good.alD i j d c hi hj e hp hpj (JB h')
     rw [GS hne]; exact I.free j c hj hpj hs }
 ·have hn':PZ ao.g t:=fun y n=>(agA.2 y n).trans (hn y n)
  have hv:(st (p.pos i+1)).t=Dd (p.dst i) (st (p.pos i)).t Cf:=by rw [e2]
  unfold C4
  rw [if_neg (by rw [(Ct (ρ:=ρ) ho4).2 hn' φ a hT]; simp)]
  refine hK _ w l φ (I.keep1 hi hS hd (by omega) (fun d' _ hy=>?_) ⟨_,r.regS_put hR hi hv,?_⟩)
  ·rw [ho3] at hy
   have:=(hy (.fail "") (.ok .nrm Ez AT b)).symm.trans (hn _ _)
   cases this
  ·rw [ho6]
   exact hT.puts (BG ho4).1 DN
end
end Go.Ev

namespace Go.Ev
set_option linter.unusedVariables false
section
variable {P:Program} {ρ:Env} {B N:Nat} {ops:Array Oper} {os:List AOp} {p:Plot} {b:K4} {cf:CF} {st:Nat->St} {h:Heap} {φ0:B6} {n:K4} {w0:World}
theorem Inv.none_at (r:Rn P N ops os p cf b st) {l:Nat} (hL:l≤p.sk.length) {i:Nat} {d:D} (hi:i<p.m) (hp:p.sk[p.pos i]? = some (.al i d)) (hb:p.bat l≤p.bat (p.pos i)):AL (E1 b d) (st l).h0=none:=by
 obtain ⟨l',hb',hx'⟩:=(r.good.al i d hi hp (p.bat l) (IN l)).1 hb
 have hno:=(r.step _ _ hx').2
 rcases Nat.le_total l' l with hle | hle
 ·rw [←(r.same_batch hle hL hb').1]; exact hno
 ·rw [(r.same_batch hle (Nat.le_of_lt (Plot.sk_lt hx')) hb'.symm).1]; exact hno
theorem Gam.lone {h:Heap} {n:K4} {φ:B6} {w:World} (g:Gam ρ B h n φ w) {q:K4} {ob:Ob} {bk tot:Nat} (hq:φ q=some (bk,0,tot)) (hp:BP ob=none) (ho:Fg ρ φ w ob bk 0 tot):Gam ρ B (B5 q AT (some ob)) n φ w where
 base:=g.base
 glob:=g.glob
 dom:=g.dom
 blk:=g.blk
 obj:=fun p o b s t hp' hx=>by
  rcases BA hp' with ⟨rfl,e⟩ | ⟨_,e⟩
  ·cases e
   rw [hq] at hx; simp only [Option.some.injEq,Prod.mk.injEq] at hx
   obtain ⟨rfl,rfl,rfl⟩:=hx
   exact ho
  ·rw [Cv] at e; cases e
 sep:=fun p q' o o' b s t s' t' hne hp' hq' hx hy=>by
  rcases BA hp' with ⟨rfl,_⟩ | ⟨_,e⟩
  ·rcases BA hq' with ⟨rfl,_⟩ | ⟨_,e⟩
   ·exact absurd rfl hne
   ·rw [Cv] at e; cases e
  ·rw [Cv] at e; cases e
 sup:=fun p q' o o' b s t s' t' hp' hpr hq' hx hy=>by
  rcases BA hp' with ⟨rfl,e⟩ | ⟨_,e⟩
  ·cases e; rw [hp] at hpr; cases hpr
  ·rw [Cv] at e; cases e
theorem Aaq {k:AK} (hs:k.sort≤1) {t:Regs} {h:Heap} {n n':K4}:H6 k cf t h n JE=H6 k cf t h n' JE:=by
 cases k <;> first | (exfalso; simp [AK.sort] at hs; done) | rfl
theorem Inv.step_rn (r:Rn P N ops os p cf b st) (hρ:Bq ρ) (h00:(st 0).h1=(st 0).h0) {S:Nat->Bool} {a:Act} {w:World} {l:Nat} {φ:B6} (I:Inv P ρ B N os p b st h φ0 n w0 S a w l φ) {i:Nat} (hi:i<p.m) (hS:S i=false) (hd:∀ d∈p.deps i,S d=true)
  {al:Nat} {dd:D} (hp:p.sk[p.pos i]? = some (.rn i al dd)) (hso:p.sort i≤1) {K:Act->World->Prop} {Q:Exit->Act->World->Prop} (hK:∀ a' w' l' φ',Inv P ρ B N os p b st h φ0 n w0 (Gd S i) a' w' l' φ'->K a' w'):wpOp P ops Q i K a w:=by
 obtain ⟨o,ao,ho1,ho2,ho3,ho4,ho5,ho6,ho7,ho8⟩:=r.get hi
 obtain ⟨t,hR,hT⟩:=I.regs
 have hanc:∀ d,d<p.m->p.anc i d=true->S d=true:=fun d hdm ha=>Cw r.good I.closed i d hi hdm hd ha
 have hdes:∀ e,e<p.m->p.anc e i=true->S e=false:=fun e he ha=>by
  cases hSe:S e with
  | false=>rfl
  | true =>
   have:=Cw r.good I.closed e i he hi (fun c hc=>I.closed e c he hSe hc) ha
   rw [hS] at this; cases this
 have hal:∀ d,p.sk[p.pos i]? = some (.al i d)->¬ Fe (os.getD i C6).g (st (p.pos i)).t:=fun d hpd=>by rw [hp] at hpd; cases hpd
 have agA:=Ck (o:=ao) (t:=t) (t':=(st (p.pos i)).t) (fun q hq=>r.agree hR hi hanc hdes (.inl rfl) q (by rw [ho7]; exact hq))
 have hs:=r.step _ _ hp
 have hs:(Fe (os.getD i C6).g (st (p.pos i)).t ∧ ∃ ob v h n,AL (E1 b dd) (st (p.pos i)).h1=some ob∧H6 (os.getD i C6).k cf (st (p.pos i)).t (B5 (E1 b dd) AT (some ob)) (st (p.pos i)).n JE = .rv v h n∧st (p.pos i+1)=⟨Dd (os.getD i C6).dst (st (p.pos i)).t v,(st (p.pos i)).h0,(st (p.pos i)).h1,(st (p.pos i)).n⟩)∨(PZ (os.getD i C6).g (st (p.pos i)).t∧st (p.pos i+1)=⟨Dd (os.getD i C6).dst (st (p.pos i)).t Cf,(st (p.pos i)).h0,(st (p.pos i)).h1,(st (p.pos i)).n⟩):=hs
 rw [ho3] at hs
 refine Ei ho1 ?_
 rcases hs with ⟨hy,ob,v,h',n',e0,e1,e2⟩ | ⟨hn,e2⟩
 ·have hy':Fe ao.g t:=fun y n=>(agA.2 y n).trans (hy y n)
  have hv:(st (p.pos i+1)).t=Dd (p.dst i) (st (p.pos i)).t v:=by rw [e2,ho6]
  obtain ⟨ha,hpa,haa,hpo,hba⟩:=r.good.rn i al dd hi hp
  -- the value,read here
  have here:∃ hX,Gam ρ B hX (st l).n φ w ∧ ∃ h'' n'',H6 ao.k cf t hX (st l).n JE = .rv v h'' n'':=by
   rcases Nat.lt_or_ge (p.sort i) 1 with h0 | h0
   ·refine ⟨(st l).h0,I.gam,?_⟩
    rw [Do agA.1,WX (k:=ao.k) (by rw [←ho5]; omega) (h':=B5 (E1 b dd) AT (some ob)) (n':=(st (p.pos i)).n)]
    exact ⟨_,_,e1⟩
   ·have hbk:p.bat l≤p.effs.length:=IN l
    rcases r.good.read i (p.bat l) hi (by omega) hbk with ⟨e,he,hse,h3 | h3⟩ | ⟨a',d',hq,hle⟩ | ⟨l',x,hbl,hx,hxr⟩
    ·have:=(I.effs e he hse).1 (hanc e he h3.1); omega
    ·have:=(I.effs e he hse).2 h3.2
     rw [hdes e he h3.1] at this; cases this
    ·rw [hp] at hq; cases hq
     have hlp:p.pos i≤p.sk.length:=Nat.le_of_lt (Plot.sk_lt hp)
     rcases r.h1_at hρ h00 (E1 b dd) hlp with h1 | ⟨i',c',a1,a2,a3,a4,a5,a6,a7⟩
     ·rw [h1,Inv.none_at r hlp ha hpa (by omega)] at e0; cases e0
     ·have hii:al=i':=by
       rcases Nat.decEq al i' with hne | he
       ·exact absurd (JB a5) (r.good.alD al i' dd c' ha a1 hne hpa a2)
       ·exact he
      subst hii
      obtain ⟨bk,tot,ob',k1,k2,k3,k4,k5⟩:=I.kept al dd ha hpa hle a6 (hanc al ha haa)
      have hob:ob'=ob:=by rw [a7,k2] at e0; cases e0; rfl
      subst hob
      refine ⟨_,I.gam.lone k1 k3 k4,?_⟩
      rw [Do agA.1,Aaq (by rw [←ho5]; exact hso) (n':=(st (p.pos i)).n)]
      exact ⟨_,_,e1⟩
    ·have hsb:(st l').h0=(st l).h0∧(st l').n=(st l).n:=by
      rcases Nat.le_total l' l with hle | hle
      ·exact r.same_batch hle I.le hbl
      ·obtain ⟨q1,q2⟩:=r.same_batch hle (Nat.le_of_lt (Plot.sk_lt hx)) hbl.symm
       exact ⟨q1.symm,q2.symm⟩
     refine ⟨(st l).h0,I.gam,?_⟩
     cases x with
     | rd i' =>
      simp only [SI.reads,Option.some.injEq] at hxr; subst hxr
      obtain ⟨_,hpl⟩:=r.good.uniq l' _ i' hx rfl
      subst hpl
      rw [hp] at hx; cases hx
     | ck i' =>
      simp only [SI.reads,Option.some.injEq] at hxr; subst hxr
      have agB:=Ck (o:=ao) (t:=t) (t':=(st l').t) (fun q hq=>r.agree hR hi hanc hdes (.inr hx) q (by rw [ho7]; exact hq))
      have hc:=(r.step _ _ hx).2
      rw [ho3] at hc
      rcases hc with ⟨_,q,h3,n3,hq,e3⟩ | hn
      ·rw [Do agB.1,←hsb.1,←hsb.2]
       have hpl:=(r.good.ck l' i' hx).2.1
       have hdq:p.dst i'=some q:=by rw [ho6]; exact hq
       have e4:Bi q (st l').t=v:=by
        rw [r.reg_after hi hdq hpl (Nat.le_of_lt (Plot.sk_lt hx)),←r.reg_after hi hdq (l:=p.pos i'+1) (by omega) (by have:=Plot.sk_lt hp; omega),hv,hdq]
        exact Be _ _ _
       rw [e4] at e3
       exact ⟨_,_,e3⟩
      ·have:=(hy' (.fail "") (.ok .nrm Ez AT b)).symm.trans ((agB.2 _ _).trans (hn _ _))
       cases this
     | _=>cases hxr
  obtain ⟨hX,gX,h'',n'',e3⟩:=here
  have hk:Fa P N o=some ao.k:=by
   rcases (BG ho4).2.2 with hk | ⟨why,hk⟩
   ·exact hk
   ·rw [hk] at e3; cases e3
  obtain ⟨v',e4,hpure⟩:=LP (P:=P) (ρ:=ρ) (B:=B) (N:=N) (cf:=cf) (t:=t) (h:=hX) (n:=(st l).n) hρ hk (by rw [←ho5]; exact hso) JE (by rw [e3]; trivial)
  rw [e3] at e4
  cases e4
  obtain ⟨x,hx,hrx⟩:=hpure φ a w hT gX
  unfold C4
  rw [if_pos ((Ct (ρ:=ρ) ho4).1 hy' φ a hT)]
  unfold Oper.wp
  rw [hx]
  refine hK _ w l φ (I.keep1 hi hS hd (by omega) hal ⟨_,r.regS_put hR hi hv,?_⟩)
  rw [ho6]
  exact hT.puts (BG ho4).1 hrx
 ·have hn':PZ ao.g t:=fun y n=>(agA.2 y n).trans (hn y n)
  have hv:(st (p.pos i+1)).t=Dd (p.dst i) (st (p.pos i)).t Cf:=by rw [e2,ho6]
  unfold C4
  rw [if_neg (by rw [(Ct (ρ:=ρ) ho4).2 hn' φ a hT]; simp)]
  refine hK _ w l φ (I.keep1 hi hS hd (by omega) hal ⟨_,r.regS_put hR hi hv,?_⟩)
  rw [ho6]
  exact hT.puts (BG ho4).1 DN
theorem Inv.shown (r:Rn P N ops os p cf b st) (hρ:Bq ρ) (hb0:p.HasAl->b.d = .d0) (hbn:p.HasAl->n.toN≤b.toN) (h00:(st 0).h1=(st 0).h0) (hdom:∀ q x,φ0 q=some x->q.toN<n.toN) {S:Nat->Bool} {a:Act} {w:World} {l:Nat} {φ:B6} (I:Inv P ρ B N os p b st h φ0 n w0 S a w l φ)
  {l':Nat} (hl':l'≤p.sk.length) (hb:p.bat l'=p.bat l) (hS:∀ i d,i<p.m->p.sk[p.pos i]? = some (.al i d)->p.pos i<l'->p.bat (p.pos i)=p.bat l->S i=true) :
  Gam ρ B (st l').h1 (st l').n φ w∧Fr h (st l').h1 φ0 φ n (st l').n w0 w:=by
 have hsb:(st l').h0=(st l).h0∧(st l').n=(st l).n:=by
  rcases Nat.le_total l' l with hle | hle
  ·exact r.same_batch hle I.le hb
  ·obtain ⟨q1,q2⟩:=r.same_batch hle hl' hb.symm
   exact ⟨q1.symm,q2.symm⟩
 rw [hsb.2]
 refine ⟨I.gam.showAll fun q=>?_,I.fr.show fun q hq=>?_⟩
 ·rcases r.h1_at hρ h00 q hl' with h' | ⟨i,d,a1,a2,a3,a4,a5,a6,a7⟩
  ·exact .inl (h'.trans (by rw [hsb.1]))
  ·subst a5
   obtain ⟨bk,tot,ob,k1,k2,k3,k4,k5⟩:=I.kept i d a1 a2 (by omega) a6 (hS i d a1 a2 a3 (by omega))
   exact .inr ⟨ob,bk,tot,Inv.none_at r I.le a1 a2 (by omega),a7.trans k2,k3,k1,k4,k5⟩
 ·rcases r.h1_at hρ h00 q hl' with h' | ⟨i,d,a1,a2,a3,a4,a5,a6,a7⟩
  ·exact h'.trans (by rw [hsb.1])
  ·subst a5
   cases hx:φ0 (E1 b d) with
   | none=>exact absurd hx hq
   | some x =>
    have:=hdom _ _ hx
    have hA:p.HasAl:=⟨i,d,a1,a2⟩
    rw [Ii d (hb0 hA)] at this
    have:=hbn hA
    omega
theorem Inv.step_ef (r:Rn P N ops os p cf b st) (hρ:Bq ρ) (hcf:DU P ρ B cf) (hb0:p.HasAl->b.d = .d0) (hbn:p.HasAl->n.toN≤b.toN) (h00:(st 0).h1=(st 0).h0) (hdom:∀ q x,φ0 q=some x->q.toN<n.toN) {S:Nat->Bool} {a:Act} {w:World} {l:Nat} {φ:B6} (I:Inv P ρ B N os p b st h φ0 n w0 S a w l φ)
  {i:Nat} (hi:i<p.m) (hS:S i=false) (hd:∀ d∈p.deps i,S d=true) (hp:p.sk[p.pos i]? = some (.ef i)) (hso:p.sort i=3) {K:Act->World->Prop} {Q:Exit->Act->World->Prop} (hK:∀ a' w' l' φ',Inv P ρ B N os p b st h φ0 n w0 (Gd S i) a' w' l' φ'->K a' w'):wpOp P ops Q i K a w:=by
 obtain ⟨o,ao,ho1,ho2,ho3,ho4,ho5,ho6,ho7,ho8⟩:=r.get hi
 obtain ⟨t,hR,hT⟩:=I.regs
 have hanc:∀ d,d<p.m->p.anc i d=true->S d=true:=fun d hdm ha=>Cw r.good I.closed i d hi hdm hd ha
 have hdes:∀ e,e<p.m->p.anc e i=true->S e=false:=fun e he ha=>by
  cases hSe:S e with
  | false=>rfl
  | true =>
   have:=Cw r.good I.closed e i he hi (fun c hc=>I.closed e c he hSe hc) ha
   rw [hS] at this; cases this
 have agA:=Ck (o:=ao) (t:=t) (t':=(st (p.pos i)).t) (fun q hq=>r.agree hR hi hanc hdes (.inl rfl) q (by rw [ho7]; exact hq))
 have hpl:=Plot.sk_lt hp
 -- the number of effects done
 have hbat:p.bat (p.pos i)=p.bat l:=by
  rcases Nat.lt_trichotomy (p.bat (p.pos i)) (p.bat l) with h' | h' | h'
  ·have:=(I.effs i hi hso).2 h'; rw [hS] at this; cases this
  ·exact h'
  ·obtain ⟨l1,e,q1,q2,q3⟩:=Rn.ef_at (Nat.le_of_lt hpl) h'
   obtain ⟨hm,hpe⟩:=r.good.uniq l1 _ e q2 rfl
   have hse:p.sort e=3:=by
    rcases r.good.pos e hm with ⟨_,hh⟩ | ⟨j,hh,_⟩ | ⟨hh | ⟨_,_,hh⟩,_⟩
    ·exact hh
    ·rw [hpe,q2] at hh; cases hh
    ·rw [hpe,q2] at hh; cases hh
    ·rw [hpe,q2] at hh; cases hh
   have:=(I.effs e hm hse).1 (hanc e hm (r.good.eff e i hm hi hse hso (by omega)))
   rw [hpe] at this; omega
 have hsucc:p.bat (p.pos i+1)=p.bat l+1:=by rw [Rn.bat_succ hp,hbat]; rfl
 have only:∀ e,e<p.m->p.sort e=3->p.bat (p.pos e)=p.bat l->e=i:=fun e he hse hbe=>by
  have hpe:p.sk[p.pos e]? = some (.ef e):=by
   rcases r.good.pos e he with ⟨hh,_⟩ | ⟨j,_,hh⟩ | ⟨_,hh⟩
   ·exact hh
   ·omega
   ·omega
  rcases Nat.lt_trichotomy (p.pos e) (p.pos i) with h' | h' | h'
  ·have:=(I.effs e he hse).1 (hanc e he (r.good.eff e i he hi hse hso h')); omega
  ·rw [h',hp] at hpe; cases hpe; rfl
  ·have:=Rn.bat_mono (p:=p) (show p.pos i+1≤p.pos e by omega) (Nat.le_of_lt (Plot.sk_lt hpe)); omega
 have hall:∀ j d,j<p.m->p.sk[p.pos j]? = some (.al j d)->p.bat (p.pos j)=p.bat l->S j=true:=fun j d hj hpj hbj=>by
  have hk:p.bat l+1≤p.effs.length:=by rw [←hsucc]; exact IN _
  obtain ⟨e,he,hse,ha,hlt⟩:=(r.good.al j d hj hpj (p.bat l+1) hk).2 (by omega)
  rcases Nat.lt_or_ge (p.bat (p.pos e)) (p.bat l) with h' | h'
  ·have hSe:=(I.effs e he hse).2 h'
   exact Cw r.good I.closed e j he hj (fun c hc=>I.closed e c he hSe hc) ha
  ·have:=only e he hse (by omega)
   subst this
   exact hanc j hj ha
 obtain ⟨g1,f1⟩:=I.shown r hρ hb0 hbn h00 hdom (Nat.le_of_lt hpl) hbat fun j d hj hpj _ hbj=>hall j d hj hpj hbj
 have hnn:(st (p.pos i)).n=(st l).n:=by
  rcases Nat.le_total (p.pos i) l with hle | hle
  ·exact (r.same_batch hle I.le hbat).2
  ·exact (r.same_batch hle (Nat.le_of_lt hpl) hbat.symm).2.symm
 -- what comes then
 have fin:∀ (v:V) (h':Heap) (n':K4) (φ':B6) (x:Value) (w':World),st (p.pos i+1)=⟨Dd (p.dst i) (st (p.pos i)).t v,h',h',n'⟩->Fr (st (p.pos i)).h1 h' φ φ' (st (p.pos i)).n n' w w'->Gam ρ B h' n' φ' w'->AG ρ φ' v x →
   Inv P ρ B N os p b st h φ0 n w0 (Gd S i) (a.put o.dst x) w' (p.pos i+1) φ':=fun v h' n' φ' x w' e2 f2 g2 hrx=>by
  have pend:∀ j c,j<p.m->p.sk[p.pos j]? = some (.al j c)->p.bat l+1≤p.bat (p.pos j)->AL (E1 b c) (st (p.pos i)).h1=none:=fun j c hj hpj hbj=>by
   rcases r.h1_at hρ h00 (E1 b c) (Nat.le_of_lt hpl) with h1 | ⟨j',c',a1,a2,a3,a4,a5,a6,a7⟩
   ·rw [h1]
    have hsb:(st (p.pos i)).h0=(st l).h0:=by
     rcases Nat.le_total (p.pos i) l with hle | hle
     ·exact (r.same_batch hle I.le hbat).1
     ·exact (r.same_batch hle (Nat.le_of_lt hpl) hbat.symm).1.symm
    rw [hsb]; exact Inv.none_at r I.le hj hpj (by omega)
   ·by_cases e:j=j'
    ·subst e; omega
    ·exact absurd (JB a5) (r.good.alD j j' c c' hj a1 e hpj a2)
  exact {
   le:=by omega
   closed:=fun j c hj hs hc=>by
    by_cases e:i=j
    ·subst e; have:=hd c hc; unfold Gd; rw [this]; rfl
    ·rw [D0 e] at hs; have:=I.closed j c hj hs hc; unfold Gd; rw [this]; rfl
   effs:=fun e he hs=>by
    rw [hsucc]
    by_cases e':i=e
    ·subst e'; rw [GQ]; simp; omega
    ·rw [D0 e',I.effs e he hs]
     have hne:p.bat (p.pos e)≠p.bat l:=fun hh=>e' (only e he hs hh).symm
     omega
   regs:=⟨_,r.regS_put hR hi (by rw [e2]),by rw [ho6]; exact (hT.mono f2.ext).puts (BG ho4).1 hrx⟩
   gam:=by rw [e2]; exact g2
   fr:=by rw [e2]; exact Fr.trans f1 f2
   room:=fun hA=>by rw [e2]; have:=I.room hA; have:=f2.nn; rw [hnn] at this; show b.toN+16≤n'.toN; omega
   kept:=fun j c hj hpj hbj hyj hs=>by
    rw [hsucc] at hbj
    have e:i≠j:=fun e=>by subst e; rw [hp] at hpj; cases hpj
    rw [D0 e] at hs
    obtain ⟨bk,tot,ob,k1,k2,k3,k4,k5⟩:=I.kept j c hj hpj (by omega) hyj hs
    have hnone:=pend j c hj hpj hbj
    have hbk:=(I.gam.blk _ _ _ _ k1).2
    refine ⟨bk,tot,ob,f2.ext _ _ k1,k2,k3,Ca (f2.old bk hbk fun q s tt hq=>by rw [k5 q s tt hq]; exact hnone) (DX f2.ext k4),fun q x y hq=>?_⟩
    rcases f2.fresh q bk x y hq with h1 | h1 | ⟨q',s',t',h1,h2⟩
    ·exact k5 q x y h1
    ·omega
    ·rw [k5 q' s' t' h1] at h2; exact absurd hnone h2
   free:=fun j c hj hpj hs=>by
    have e:i≠j:=fun e=>by subst e; rw [hp] at hpj; cases hpj
    rw [D0 e] at hs
    have hn:=I.free j c hj hpj hs
    cases hx:φ' (E1 b c) with
    | none=>rfl
    | some x =>
     rcases f2.new _ _ hx with h1 | ⟨h1,_⟩
     ·rw [hn] at h1; cases h1
     ·rw [hnn,Ii c (hb0 ⟨j,c,hj,hpj⟩)] at h1
      have:=I.room ⟨j,c,hj,hpj⟩; have:=D.toN_lt c; omega }
 have hs:(Fe (os.getD i C6).g (st (p.pos i)).t ∧ ∃ v h n,H6 (os.getD i C6).k cf (st (p.pos i)).t (st (p.pos i)).h1 (st (p.pos i)).n R.rv = .rv v h n∧st (p.pos i+1)=⟨Dd (os.getD i C6).dst (st (p.pos i)).t v,h,h,n⟩)∨(PZ (os.getD i C6).g (st (p.pos i)).t∧st (p.pos i+1)=⟨Dd (os.getD i C6).dst (st (p.pos i)).t Cf,(st (p.pos i)).h1,(st (p.pos i)).h1,(st (p.pos i)).n⟩):=r.step _ _ hp
 rw [ho3] at hs
 refine Ei ho1 ?_
 rcases hs with ⟨hy,v,h',n',e1,e2⟩ | ⟨hn,e2⟩
 ·have hy':Fe ao.g t:=fun y n=>(agA.2 y n).trans (hy y n)
  have e3:H6 ao.k cf t (st (p.pos i)).h1 (st (p.pos i)).n R.rv = .rv v h' n':=(Do agA.1).trans e1
  have hk:Fa P N o=some ao.k:=by
   rcases (BG ho4).2.2 with hk | ⟨why,hk⟩
   ·exact hk
   ·rw [hk] at e3; cases e3
  obtain ⟨v',h'',n'',e4,hstep⟩:=JU (P:=P) (ρ:=ρ) (B:=B) (N:=N) (cf:=cf) (t:=t) (h:=(st (p.pos i)).h1) (n:=(st (p.pos i)).n) hρ hcf hk R.rv (by rw [e3]; trivial)
  rw [e3] at e4
  cases e4
  unfold C4
  rw [if_pos ((Ct (ρ:=ρ) ho4).1 hy' φ a hT)]
  exact hstep φ a w hT g1 K Q fun φ' x w' f2 g2 hrx=>hK _ _ _ _ (fin v h' n' φ' x w' (by rw [ho6]; exact e2) f2 g2 hrx)
 ·have hn':PZ ao.g t:=fun y n=>(agA.2 y n).trans (hn y n)
  unfold C4
  rw [if_neg (by rw [(Ct (ρ:=ρ) ho4).2 hn' φ a hT]; simp)]
  exact hK _ _ _ _ (fin Cf _ _ φ undef w (by rw [ho6]; exact e2) (Fr.refl _ φ _ w) g1 DN)
end
end Go.Ev

namespace Go.Ev
set_option linter.unusedVariables false
section
variable {P:Program} {ρ:Env} {B N:Nat} {ops:Array Oper} {os:List AOp} {p:Plot} {b:K4} {cf:CF} {st:Nat->St} {h:Heap} {φ0:B6} {n:K4} {w0:World}
theorem TR.congr {φ:B6} {t t':Regs} {a:Act} (hT:TR ρ N φ t a) (h:∀ q,Bi q t=Bi q t'):TR ρ N φ t' a :=
 ⟨hT.size,hT.defers,fun s q hs hq=>by rw [←h q]; exact hT.at_ s q hs hq⟩
theorem Inv.done (r:Rn P N ops os p cf b st) (hρ:Bq ρ) (hb0:p.HasAl->b.d = .d0) (hbn:p.HasAl->n.toN≤b.toN) (h00:(st 0).h1=(st 0).h0) (hdom:∀ q x,φ0 q=some x->q.toN<n.toN) {S:Nat->Bool} {a:Act} {w:World} {l:Nat} {φ:B6} (I:Inv P ρ B N os p b st h φ0 n w0 S a w l φ)
  (hS:∀ i,i<p.m->S i=true):Gam ρ B (st p.sk.length).h1 (st p.sk.length).n φ w∧Fr h (st p.sk.length).h1 φ0 φ n (st p.sk.length).n w0 w∧TR ρ N φ (st p.sk.length).t a:=by
 have hb:p.bat p.sk.length=p.bat l:=by
  have h1:=Rn.bat_mono (p:=p) I.le (Nat.le_refl _)
  rcases Nat.lt_or_ge (p.bat l) (p.bat p.sk.length) with h' | h'
  ·obtain ⟨l1,e,q1,q2,q3⟩:=Rn.ef_at (p:=p) (Nat.le_refl _) h'
   obtain ⟨hm,hpe⟩:=r.good.uniq l1 _ e q2 rfl
   have hse:p.sort e=3:=by
    rcases r.good.pos e hm with ⟨_,hh⟩ | ⟨j,hh,_⟩ | ⟨hh | ⟨_,_,hh⟩,_⟩
    ·exact hh
    ·rw [hpe,q2] at hh; cases hh
    ·rw [hpe,q2] at hh; cases hh
    ·rw [hpe,q2] at hh; cases hh
   have:=(I.effs e hm hse).1 (hS e hm)
   rw [hpe] at this; omega
  ·omega
 obtain ⟨g1,f1⟩:=I.shown r hρ hb0 hbn h00 hdom (Nat.le_refl _) hb fun j d hj _ _ _=>hS j hj
 obtain ⟨t,hR,hT⟩:=I.regs
 refine ⟨g1,f1,hT.congr fun q=>?_⟩
 by_cases hw:∃ w,w<p.m∧p.dst w=some q
 ·obtain ⟨w,hw,hd⟩:=hw
  exact ((hR q).1 w hw hd).1 (hS w hw)
 ·have hn:∀ w,w<p.m->p.dst w≠some q:=fun w h1 h2=>hw ⟨w,h1,h2⟩
  rw [(hR q).2 hn]
  exact (r.reg_free hn (Nat.le_refl _)).symm
def left (m:Nat) (listed:Array Bool):Nat:=((List.range m).filter fun i=>!listed.getD i true).length
theorem Ub {m:Nat} {listed:Array Bool} {i:Nat} (hl:listed.size=m) (hi:i<m) (h:listed.getD i true=false):left m (listed.setIfInBounds i true)<left m listed:=by
 unfold left
 have e:((List.range m).filter fun j=>!(listed.setIfInBounds i true).getD j true)=((List.range m).filter fun j=>!listed.getD j true).filter fun j=>!Nat.beq i j:=by
  rw [List.filter_filter]
  refine List.filter_congr fun j hj=>?_
  by_cases e:i=j
  ·subst e; simp [Array.getD_eq_getD_getElem?,Array.getElem?_setIfInBounds,show i<listed.size by omega]
  ·have hb:Nat.beq i j=false:=by cases hx:Nat.beq i j with
    | false=>rfl
    | true=>exact absurd (Nat.eq_of_beq_eq_true hx) e
   simp [Array.getD_eq_getD_getElem?,Array.getElem?_setIfInBounds,e,hb]
 rw [e]
 refine List.length_filter_lt_length_iff_exists.2 ⟨i,List.mem_filter.2 ⟨List.mem_range.2 hi,by rw [h]; rfl⟩,by simp⟩
theorem Inv.step (r:Rn P N ops os p cf b st) (hρ:Bq ρ) (hcf:DU P ρ B cf) (hb0:p.HasAl->b.d = .d0) (hbn:p.HasAl->n.toN≤b.toN) (h00:(st 0).h1=(st 0).h0) (hdom:∀ q x,φ0 q=some x->q.toN<n.toN) {S:Nat->Bool} {a:Act} {w:World} {l:Nat} {φ:B6} (I:Inv P ρ B N os p b st h φ0 n w0 S a w l φ)
  {i:Nat} (hi:i<p.m) (hS:S i=false) (hd:∀ d∈p.deps i,S d=true) {K:Act->World->Prop} {Q:Exit->Act->World->Prop} (hK:∀ a' w' l' φ',Inv P ρ B N os p b st h φ0 n w0 (Gd S i) a' w' l' φ'->K a' w'):wpOp P ops Q i K a w:=by
 rcases r.good.pos i hi with ⟨hp,hs⟩ | ⟨d,hp,hs⟩ | ⟨hp | ⟨_,_,hp⟩,hs⟩
 ·exact I.step_ef r hρ hcf hb0 hbn h00 hdom hi hS hd hp hs hK
 ·exact I.step_al r hρ hb0 hbn hi hS hd hp hs hK
 ·exact I.step_rd r hρ hi hS hd hp hs hK
 ·exact I.step_rn r hρ h00 hi hS hd hp hs hK
theorem Inv.congrS {S S':Nat->Bool} {a:Act} {w:World} {l:Nat} {φ:B6} (I:Inv P ρ B N os p b st h φ0 n w0 S a w l φ) (he:∀ i,S i=S' i):Inv P ρ B N os p b st h φ0 n w0 S' a w l φ:=by
 have:S=S':=funext he
 subst this; exact I
theorem Rc (r:Rn P N ops os p cf b st) (hρ:Bq ρ) (hcf:DU P ρ B cf) (hb0:p.HasAl->b.d = .d0) (hbn:p.HasAl->n.toN≤b.toN) (h00:(st 0).h1=(st 0).h0) (hdom:∀ q x,φ0 q=some x->q.toN<n.toN) {Q:Exit->Act->World->Prop}
  (hQ:∀ φ' a' w',Fr h (st p.sk.length).h1 φ0 φ' n (st p.sk.length).n w0 w'->Gam ρ B (st p.sk.length).h1 (st p.sk.length).n φ' w'->TR ρ N φ' (st p.sk.length).t a'->Q .normal a' w') :
  ∀ (fuel:Nat) (listed:Array Bool) (a:Act) (w:World) (l:Nat) (φ:B6),listed.size=p.m->left p.m listed≤fuel->Inv P ρ B N os p b st h φ0 n w0 (fun i=>listed.getD i false) a w l φ->wpAny P .any ops Q fuel listed a w:=by
 have hsz:=r.size
 have rdy:∀ (listed:Array Bool) (i:Nat),listed.size=p.m->i<p.m->listed.getD i false=false->(∀ d∈p.deps i,listed.getD d false=true)->i∈Region.ready .any ops listed:=fun listed i hl hi h1 h2=>by
  obtain ⟨o,ao,ho1,_,_,_,_,_,_,ho8⟩:=r.get hi
  refine mem_ready.2 ⟨by simpa [Array.getD_eq_getD_getElem?,Array.getElem?_eq_getElem (show i<listed.size by omega)] using h1,o,ho1,fun e he hb=>h2 e.on ?_⟩
  rw [ho8]
  exact List.mem_filterMap.2 ⟨e,by simpa using he,by rw [if_pos hb]⟩
 have all:∀ (listed:Array Bool),listed.size=p.m->Region.ready .any ops listed=[]->∀ i,i<p.m->listed.getD i false=true:=fun listed hl hr i=>by
  induction i using Nat.strongRecOn with
  | _ i ih =>
   intro hi
   cases hx:listed.getD i false with
   | true=>rfl
   | false =>
    have:=rdy listed i hl hi hx fun d hd=>ih d (r.good.deps i d hi hd) (by have:=r.good.deps i d hi hd; omega)
    rw [hr] at this; cases this
 intro fuel
 induction fuel with
 | zero =>
  intro listed a w l φ hl hc I
  have hr:Region.ready .any ops listed=[]:=by
   cases hx:Region.ready .any ops listed with
   | nil=>rfl
   | cons i rs =>
    have hi:i∈Region.ready .any ops listed:=by rw [hx]; exact List.mem_cons_self ..
    obtain ⟨h1,o,ho,_⟩:=mem_ready.1 hi
    have hlt:i<p.m:=by rw [hsz]; exact (Array.getElem?_eq_some_iff.1 ho).1
    have:i∈(List.range p.m).filter fun i=>!listed.getD i true:=List.mem_filter.2 ⟨List.mem_range.2 hlt,by rw [h1]; rfl⟩
    have:=List.length_pos_of_mem this
    unfold left at hc; omega
  obtain ⟨g1,f1,T1⟩:=I.done r hρ hb0 hbn h00 hdom fun i hi=>all listed hl hr i hi
  exact ⟨hr,hQ φ a w f1 g1 T1⟩
 | succ fuel ih =>
  intro listed a w l φ hl hc I
  refine ⟨fun hr=>?_,fun i hi=>?_⟩
  ·obtain ⟨g1,f1,T1⟩:=I.done r hρ hb0 hbn h00 hdom fun i hi=>all listed hl hr i hi
   exact hQ φ a w f1 g1 T1
  ·obtain ⟨h1,o,ho,h2⟩:=mem_ready.1 hi
   have hlt:i<p.m:=by rw [hsz]; exact (Array.getElem?_eq_some_iff.1 ho).1
   obtain ⟨o',ao,ho1,_,_,_,_,_,_,ho8⟩:=r.get hlt
   rw [ho] at ho1; cases ho1
   have hil:i<listed.size:=by omega
   have h1':listed.getD i false=false:=by simpa [Array.getD_eq_getD_getElem?,Array.getElem?_eq_getElem hil] using h1
   refine I.step r hρ hcf hb0 hbn h00 hdom hlt h1' (fun d hd=>?_) fun a' w' l' φ' I'=>?_
   ·rw [ho8] at hd
    obtain ⟨e,he,hb⟩:=List.mem_filterMap.1 hd
    split at hb
    ·rename_i hbb; cases hb; exact h2 e (by simpa using he) hbb
    ·cases hb
   ·refine ih (listed.setIfInBounds i true) a' w' l' φ' (by simp [hl]) ?_ (I'.congrS fun j=>?_)
    ·have:=Ub hl hlt h1; omega
    ·by_cases e:i=j
     ·subst e; rw [GQ]; simp [Array.getD_eq_getD_getElem?,Array.getElem?_setIfInBounds,hil]
     ·rw [D0 e]; simp [Array.getD_eq_getD_getElem?,Array.getElem?_setIfInBounds,e]
theorem Rs (hρ:Bq ρ) (hm:P.follows .mixedOrders=true) (hcf:DU P ρ B cf) (r:Rn P N ops os p cf b st) {id:Nat} {t:Regs} {n0:K4} (s0:st 0=⟨t,h,h,n0⟩) (hb0:p.HasAl->b.d = .d0) (hbn:p.HasAl->n.toN≤b.toN)
  (hroom:p.HasAl->b.toN+16≤n0.toN) (hn0:n.toN≤n0.toN) {φ:B6} {a:Act} {w:World} (hT:TR ρ N φ t a) (g:Gam ρ B h n φ w) {Q:Exit->Act->World->Prop}
  (hQ:∀ φ' a' w',Fr h (st p.sk.length).h1 φ φ' n (st p.sk.length).n w w'->Gam ρ B (st p.sk.length).h1 (st p.sk.length).n φ' w'->TR ρ N φ' (st p.sk.length).t a'->Q .normal a' w'):(Code.region id ops true).wp P Q a w:=by
 have hdom:∀ q x,φ q=some x->q.toN<n.toN:=fun q x hq=>g.dom q x hq
 have h00:(st 0).h1=(st 0).h0:=by rw [s0]
 refine wp_region_any hm (Rc (B:=B) (φ0:=φ) (n:=n) (w0:=w) (h:=h) r hρ hcf hb0 hbn h00 hdom (Q:=Q) (fun φ' a' w' f1 g1 T1=>hQ φ' a' w' f1 g1 T1) _ _ a _ 0 φ (by rw [Array.size_replicate,r.size]) ?_ ?_)
 ·unfold left
  refine Nat.le_trans (List.length_filter_le _ _) ?_
  rw [List.length_range,r.size]; exact Nat.le_refl _
 ·have hS:∀ i,(Array.replicate ops.size false).getD i false=false:=fun i=>by
   rw [Array.getD_eq_getD_getElem?,Array.getElem?_replicate]; split <;> rfl
  exact {
   le:=Nat.zero_le _
   closed:=fun i d hi hs _=>by rw [hS] at hs; cases hs
   effs:=fun e he _=>by rw [hS]; simp [Plot.bat]
   regs:=⟨t,fun q=>⟨fun w' _ _=>⟨fun hs=>absurd hs (by show ¬ ((Array.replicate ops.size false).getD w' false=true); rw [hS]; simp),fun _=>(by rw [s0])⟩,fun _=>(by rw [s0])⟩,hT⟩
   gam:=by rw [s0]; exact (g.nx (n':=n0) hn0).drew
   fr:=by
    rw [s0]
    exact ⟨B6.le_refl φ,fun _ _ h=>.inl h,hn0,rfl,rfl,rfl,Nat.le_refl _,fun _ _ _=>rfl,fun _ _ _ _ h=>.inl h,fun _ _ h=>h⟩
   room:=by rw [s0]; exact hroom
   kept:=fun i d _ _ _ _ hs=>by rw [hS] at hs; cases hs
   free:=fun i d hi hp _=>by
    have hA:p.HasAl:=⟨i,d,hi,hp⟩
    cases hx:φ (E1 b d) with
    | none=>rfl
    | some x=>have:=hdom _ _ hx; rw [Ii d (hb0 hA)] at this; have:=hbn hA; omega }
theorem RD {n b n0:K4} (hbn:b.toN=(n.a.toN*256+n.b.toN*16+n.c.toN+1)*16) (hb0:b.d = .d0) (hn0:n0.toN=(b.a.toN*256+b.b.toN*16+b.c.toN+1)*16):n.toN≤b.toN∧n0.toN=b.toN+16:=by
 obtain ⟨a1,a2,a3,a4⟩:=n
 obtain ⟨b1,b2,b3,b4⟩:=b
 simp only [K4.toN] at hbn hn0 hb0 ⊢
 subst hb0
 have:=D.toN_lt a4
 simp only [D.toN] at *
 omega
theorem ZK {p:Plot} (hp:p.Good) (h:p.sk.any SI.isAl=false):¬ p.HasAl:=by
 rintro ⟨i,d,_,hx⟩
 have:p.sk.any SI.isAl=true:=List.any_eq_true.2 ⟨_,List.mem_of_getElem? hx,rfl⟩
 rw [h] at this; cases this
end
end Go.Ev

namespace Go.Ev
set_option linter.unusedVariables false
section
variable {P:Program} {ρ:Env}
def Td:Oper:={ dst:=some 0,op:=.makeMap 0 none,type:=0,pos:="",after:=#[],guard:=none }
theorem Hh {f:FuncId} {fn:Func} {c:Code} {xs:Array Value} {w:World} {R:Value->World->Prop} (hf:P.funcs[f]? = some fn) (hb:fn.body=some c) (hn:fn.name ≠ "runtime.NumGoroutine") (h:HV P f xs w R) :
  Calls P f xs w fun | .returned v,w'=>R v w' | _,_=>False:=by
 have:=h Td { tmps:=#[undef],defers:=[] } (fun a w'=>R (a.tmps.getD 0 undef) w') (fun _ _ _=>False) (fun x w' hr=>by simpa [Td,Act.put] using hr)
 have hcf:(callFunc f xs).run P w = .ok (.enter f xs) w:=by simp [callFunc,hf,hn,hb]
 rw [hcf] at this
 refine Calls.mono this fun e w' he=>?_
 cases e with
 | returned v=>simpa [Td,Act.put] using he
 | panicked ch=>exact he
 | outgrown=>obtain ⟨_,_,h⟩:=he; exact h
def VA (ρ:Env) (w:World):Prop:=∀ b c e fr,ρ.gl b=some (c,e,fr)->b<w.heap.size∧w.heap[b]? = some (.cells c e fr)
theorem LD (w:World) (n:K4) (hg:VA ρ w):Gam ρ w.heap.size AT n (fun _=>none) w where
 base:=Nat.le_refl _
 glob:=hg
 dom:=fun p x h=>by cases h
 blk:=fun p b s t h=>by cases h
 obj:=fun p o b s t _ h=>by cases h
 sep:=fun p q o o' b s t s' t' _ _ _ h=>by cases h
 sup:=fun p q o o' b s t s' t' _ _ _ h=>by cases h
theorem NQ {h h1:Heap} {φ':B6} {n n1:K4} {w w':World} (f:Fr h h1 (fun _=>none) φ' n n1 w w'):Go.RowKit.Below w.heap.size w w' :=
 ⟨f.os,f.tape,f.out,f.size,fun k hk=>f.old k hk fun p s t hp=>by cases hp⟩
end
end Go.Ev

namespace Go.Ev
set_option linter.unusedVariables false
section
variable {P:Program} {ρ:Env} {B:Nat}
structure Bare (P:Program) (f:FuncId) (e:Array Value->Sem Value):Prop where
 ex:∃ fn,P.funcs[f]? = some fn∧(fn.name == "runtime.NumGoroutine")=false∧fn.body.isNone=true∧Extern.findNext fn=none∧Extern.find fn=some e
theorem Bare.run {f:FuncId} {e:Array Value->Sem Value} (b:Bare P f e) {xs:Array Value} {w w':World} {x:Value} (h:(e xs).run P w = .ok x w'):(callFunc f xs).run P w = .ok (.value x) w':=by
 obtain ⟨fn,h1,h2,h3,h4,h5⟩:=b.ex
 have h2':fn.name ≠ "runtime.NumGoroutine":=by simpa using h2
 have h3':fn.body=none:=by simpa using h3
 simp [callFunc,h1,h2',h3',h4,h5,h]
theorem Bare.runs {f:FuncId} {e:Array Value->Sem Value} (b:Bare P f e) {xs:Array Value} {w w':World} {x:Value} (h:(e xs).run P w = .ok x w') {R:Value->World->Prop} (hR:R x w'):HV P f xs w R:=by
 intro o a K Q hK
 rw [b.run h]
 exact hK _ _ hR
section
variable {v:V} {h:Heap} {n:K4}
theorem M6 {c:Bool} {t:R} {s:String} (hx:br c t (.fail s) = .rv v h n):c=true∧t = .rv v h n:=by
 cases c
 ·cases hx
 ·exact ⟨rfl,hx⟩
theorem OC {x:V} {κ:Nat->Nat->R} (hx:Bl x κ = .rv v h n):∃ m c,x = .str m c∧κ m c = .rv v h n:=by
 cases x with
 | str m c=>exact ⟨m,c,rfl,hx⟩
 | _=>cases hx
theorem Po {x:V} {κ:IntKind->Nat->R} (hx:FP x κ = .rv v h n):∃ k r,x = .int k r∧κ k r = .rv v h n:=by
 cases x with
 | int k r=>exact ⟨k,r,rfl,hx⟩
 | _=>cases hx
end
def PH (r:Nat) (m:Nat):Nat->Nat->(Nat->R)->R->R :=
 @Nat.rec (fun _=>Nat->Nat->(Nat->R)->R->R) (fun _ _ _ κn=>κn)
  (fun _ ih c i κ κn=>br (Nat.beq (lo c 1) r) (κ i) (Ai (sh c 1) fun d=>Ai (Nat.succ i) fun j=>ih d j κ κn)) m
theorem UJ (b:UInt8) (l:List UInt8):∀ (i:Nat) (κ:Nat->R) (κn:R),PH b.toNat l.length (B7 l) i κ κn=if Lib.indexByte l b = -1 then κn else κ (i+(Lib.indexByte l b).toNat):=by
 induction l with
 | nil=>intro i κ κn; rfl
 | cons x l ih =>
  intro i κ κn
  have hx:=x.toNat_lt
  have e0:lo (B7 (x::l)) 1=x.toNat:=by rw [DE]; simp only [B7]; omega
  have e1:sh (B7 (x::l)) 1=B7 l:=by rw [EE]; simp only [B7]; omega
  have e2:PH b.toNat (x::l).length (B7 (x::l)) i κ κn=br (Nat.beq x.toNat b.toNat) (κ i) (PH b.toNat l.length (B7 l) (i+1) κ κn):=by
   have:PH b.toNat (x::l).length (B7 (x::l)) i κ κn=br (Nat.beq (lo (B7 (x::l)) 1) b.toNat) (κ i) (Ai (sh (B7 (x::l)) 1) fun d=>Ai (Nat.succ i) fun j=>PH b.toNat l.length d j κ κn):=rfl
   rw [this,e0,e1,Ah,Ah]
  rw [e2]
  unfold Lib.indexByte
  by_cases hb:x=b
  ·subst hb
   have:Nat.beq x.toNat x.toNat=true:=Nat.beq_refl _
   rw [this]; simp [br]
  ·have h1:Nat.beq x.toNat b.toNat=false:=by
    cases h:Nat.beq x.toNat b.toNat with
    | false=>rfl
    | true=>exact absurd (UInt8.toNat_inj.1 (Nat.eq_of_beq_eq_true h)) hb
   have h2:(x == b)=false:=by simpa using hb
   rw [h1,AO,ih]
   have hn:=Lib.indexByte_ge l b
   simp only [h2,Bool.false_eq_true,if_false]
   by_cases hm:Lib.indexByte l b = -1
   ·simp [hm]
   ·have h3:(Lib.indexByte l b == -1)=false:=by simpa using hm
    rw [if_neg hm,h3]
    simp only [Bool.false_eq_true,if_false]
    rw [if_neg (by omega)]
    congr 1; omega
def DV:Im:=fun args h n =>
 @List.rec V (fun _=>R) (.fail "") (fun x l _=>@List.rec V (fun _=>R) (.fail "") (fun y l _=>@List.rec V (fun _=>R)
  (Bl x fun m c=>FP y fun k r=>br (Bj k .u8) (br (Nat.ble m 1000000000) (PH r m c 0 (fun i=>.rv (.int .i64 i) h n) (.rv (.int .i64 18446744073709551615) h n)) (.fail "")) (.fail "")) (C2 "") l) l) args
theorem ED {f:FuncId} (b:Bare P f Extern.BytealgIndexByte.indexByte):Hr P ρ B f DV:=by
 intro args h n v h1 n1 hx φ w xs g hr
 rcases args with _ | ⟨x,_ | ⟨y,_ | ⟨z,l⟩⟩⟩ <;> try (cases hx; done)
 have hx:(Bl x fun m c=>FP y fun k r=>br (Bj k .u8) (br (Nat.ble m 1000000000) (PH r m c 0 (fun i=>.rv (.int .i64 i) h n) (.rv (.int .i64 18446744073709551615) h n)) (.fail "")) (.fail "")) = .rv v h1 n1:=hx
 obtain ⟨m,c,rfl,hx⟩:=OC hx
 obtain ⟨k,r,rfl,hx⟩:=Po hx
 obtain ⟨hk,hx⟩:=M6 hx
 have:=Bg.1 hk
 subst this
 obtain ⟨hm,hx⟩:=M6 hx
 obtain ⟨x1,ys,hxs,hr1,hr⟩:=AE.1 hr
 obtain ⟨x2,ys,rfl,hr2,hr⟩:=AE.1 hr
 obtain rfl:=AR.1 hr
 obtain ⟨s,rfl,hsz,hc⟩:=(by simpa only [AG] using hr1:∃ s:ByteArray,x1 = .string s∧s.size=m∧B7 s.data.toList=c)
 obtain ⟨hlt,rfl⟩:=(by simpa only [AG] using hr2:r<Mk .u8∧x2 = .int .u8 (BF .u8 r))
 have hlt:r<256:=hlt
 have hdec:BF .u8 r=(r:Int):=AA (by show r<256; exact hlt)
 obtain rfl:xs = #[.string s,.int .u8 (BF .u8 r)]:=by cases xs; simp at hxs; simp [hxs]
 rw [hdec]
 refine b.runs (Lib.run_indexByteString s r w) ⟨φ,?_⟩
 have hb:((r:Int).toNat.toUInt8).toNat=r:=by
  simp only [Int.toNat_natCast]
  exact UInt8.toNat_ofNat_of_lt' (show r<2 ^ 8 from hlt)
 have hl:s.data.toList.length=m:=by rw [←hsz]; rfl
 have key:=UJ ((r:Int).toNat.toUInt8) s.data.toList 0 (fun i=>.rv (.int .i64 i) h n) (.rv (.int .i64 18446744073709551615) h n)
 rw [hb,hl,hc] at key
 rw [key] at hx
 have hge:=Lib.indexByte_ge s.data.toList ((r:Int).toNat.toUInt8)
 have hle:Lib.indexByte s.data.toList ((r:Int).toNat.toUInt8)<(m:Int)∨Lib.indexByte s.data.toList ((r:Int).toNat.toUInt8) = -1:=by
  rw [←hl]
  generalize s.data.toList=l
  generalize ((r:Int).toNat.toUInt8)=b
  induction l with
  | nil=>right; rfl
  | cons x l ih =>
   have:=Lib.indexByte_ge l b
   unfold Lib.indexByte
   simp only [List.length_cons]
   split
   ·left; omega
   ·split
    ·right; rfl
    ·rename_i h1 h2
     have:Lib.indexByte l b ≠ -1:=by simpa using h2
     left; omega
 have hm:=Ap.1 hm
 revert hx
 generalize Lib.indexByte s.data.toList ((r:Int).toNat.toUInt8)=q at hge hle
 intro hx
 by_cases hq:q = -1
 ·rw [if_pos hq] at hx
  simp only [R.rv.injEq] at hx
  obtain ⟨rfl,rfl,rfl⟩:=hx
  refine ⟨Fr.refl _ _ _ _,g,?_⟩
  simp only [AG]
  subst hq
  exact ⟨by decide,by simp [BF,Hk,Mk]⟩
 ·rw [if_neg hq] at hx
  simp only [R.rv.injEq] at hx
  obtain ⟨rfl,rfl,rfl⟩:=hx
  refine ⟨Fr.refl _ _ _ _,g,?_⟩
  simp only [AG]
  have:q<(m:Int):=by
   rcases hle with h | h
   ·exact h
   ·exact absurd h hq
  refine ⟨by simp only [Mk]; omega,?_⟩
  rw [AA (by simp only [Hk]; omega)]
  congr 1; omega
end
end Go.Ev

namespace Go.Ev
open Go.RowKit Go.WideShapes Go.ChangeShapes
set_option linter.unusedVariables false
def X5 (v:V):Bool :=
 @V.rec (fun _=>Bool) (fun _=>Unit) (fun _ _=>false) (fun b=>b) (fun _ _=>false) (fun _ _ _ _ _ _=>false) (fun _ _=>false) (fun _ _=>false) (fun _=>false) (fun _=>false) (fun _ _ _=>false) (fun _ _=>false) (fun _=>false) () (fun _ _ _ _=>()) v
def Vx (p:Nat->Bool) (m:Nat):Bool:=@Nat.rec (fun _=>Bool) true (fun i ih=>br (p i) ih false) m
theorem U4 {p:Nat->Bool}:∀ {m:Nat},Vx p m=true->∀ i,i<m->p i=true:=by
 intro m
 induction m with
 | zero=>intro _ i hi; omega
 | succ m ih =>
  intro h i hi
  have h:br (p m) (Vx p m) false=true:=h
  cases hp:p m with
  | false=>rw [hp] at h; cases h
  | true =>
   rw [hp] at h
   by_cases e:i=m
   ·subst e; exact hp
   ·exact ih h i (by omega)
def Pp:K4:=⟨.d0,.d0,.d0,.d0⟩
theorem Lg {H:Type} {enc:TypeId×Value->H} {P:Program} {f:Func} {s:ChangeSpec} {apart fresh handsOn again:Bool} {W W':World} {args:Array Value} {v:Value} {ds gs:List (DataW H)} {before pa pv:List MemPlace}
  (hW:DataW.Whole enc P f.params.toList s.vars apart W args.toList ds gs before)
  (hres:∀ (b:Nat) (sp:Nat->Bool) (hd:Bool),DataW.TrodAll enc P W' b sp hd f.resultTypes.toList (v.resultList f.resultTypes.size) (s.fn H (ds++gs)).results [])
  (hargs:∀ sp:Nat->Bool,(∀ p∈before,sp p.block=true)->DataW.TrodAll enc P W' 0 sp true f.params.toList args.toList (s.fn H (ds++gs)).args pa)
  (hvars:∀ sp:Nat->Bool,(∀ p∈before,sp p.block=true)->DataW.TrodVars enc P W' sp s.vars (s.fn H (ds++gs)).vars pv)
  (hps:before=pa++pv) (hb:Below W.heap.size W W')
  (hok:∀ (j:Nat) (t:TypeId) (r:Value),f.resultTypes[j]? = some t->(v.resultList f.resultTypes.size)[j]? = some r->Value.okWide P W' .any 0 t r) :
  s.post enc P f apart fresh handsOn again W args v W':=by
 have hlt:=fun p (hp:p∈before)=>hW.lt p hp
 have hold:∀ p∈before,(fun b=>decide (b<W.heap.size)) p.block=true:=fun p hp=>decide_eq_true (hlt p hp)
 refine ⟨ds,gs,before,[],pa,pv,hW,hres _ _ _,hargs _ hold,hvars _ hold,World.keptBut_mono (fun p hp=>⟨hp,Or.inr (by rw [hps] at hp; exact List.mem_append.1 hp)⟩) (hb.frame (· ∈ before)),fun _=>?_⟩
 obtain ⟨_,_,_,_,_,hz,hn⟩:=hW
 refine ⟨hok,_,_,([]++pa)++pv,⟨[]++pa,pv,trodAll_append (hargs _ (fun _ _=>rfl)) (hres _ _ _),hvars _ (fun _ _=>rfl),rfl,fun b off hp=>?_,fun ha=>?_⟩,fun p hp _=>?_⟩
 ·have hin:MemPlace.cell b off∈before:=by rw [hps]; simpa using hp
  rw [hb.frozen (hlt _ hin)]; exact hz b off hin
 ·have:=hn ha; rw [hps] at this; simpa using this
 ·rw [hps]; simpa using hp
end Go.Ev

namespace Go.Ev
set_option linter.unusedVariables false
def kM0 (j:IntKind) (κ:Nat->R):R:=@IntKind.rec (fun _=>R) (κ 256) (.fail "") (.fail "") (.fail "") (.fail "") (.fail "") (.fail "") (.fail "") j
def kM1 (j:IntKind) (κ:Nat->R):R:=@IntKind.rec (fun _=>R) (.fail "") (κ 65536) (.fail "") (.fail "") (.fail "") (.fail "") (.fail "") (.fail "") j
def kM2 (j:IntKind) (κ:Nat->R):R:=@IntKind.rec (fun _=>R) (.fail "") (.fail "") (κ 4294967296) (.fail "") (.fail "") (.fail "") (.fail "") (.fail "") j
def kM3 (j:IntKind) (κ:Nat->R):R:=@IntKind.rec (fun _=>R) (.fail "") (.fail "") (.fail "") (κ 18446744073709551616) (.fail "") (.fail "") (.fail "") (.fail "") j
def kM4 (j:IntKind) (κ:Nat->R):R:=@IntKind.rec (fun _=>R) (.fail "") (.fail "") (.fail "") (.fail "") (κ 256) (.fail "") (.fail "") (.fail "") j
def kM5 (j:IntKind) (κ:Nat->R):R:=@IntKind.rec (fun _=>R) (.fail "") (.fail "") (.fail "") (.fail "") (.fail "") (κ 65536) (.fail "") (.fail "") j
def kM6 (j:IntKind) (κ:Nat->R):R:=@IntKind.rec (fun _=>R) (.fail "") (.fail "") (.fail "") (.fail "") (.fail "") (.fail "") (κ 4294967296) (.fail "") j
def kM7 (j:IntKind) (κ:Nat->R):R:=@IntKind.rec (fun _=>R) (.fail "") (.fail "") (.fail "") (.fail "") (.fail "") (.fail "") (.fail "") (κ 18446744073709551616) j
def kM (k:IntKind):IntKind->(Nat->R)->R:=@IntKind.rec (fun _=>IntKind->(Nat->R)->R) kM0 kM1 kM2 kM3 kM4 kM5 kM6 kM7 k
def kH0 (j:IntKind) (κ:Nat->R):R:=@IntKind.rec (fun _=>R) (κ 128) (.fail "") (.fail "") (.fail "") (.fail "") (.fail "") (.fail "") (.fail "") j
def kH1 (j:IntKind) (κ:Nat->R):R:=@IntKind.rec (fun _=>R) (.fail "") (κ 32768) (.fail "") (.fail "") (.fail "") (.fail "") (.fail "") (.fail "") j
def kH2 (j:IntKind) (κ:Nat->R):R:=@IntKind.rec (fun _=>R) (.fail "") (.fail "") (κ 2147483648) (.fail "") (.fail "") (.fail "") (.fail "") (.fail "") j
def kH3 (j:IntKind) (κ:Nat->R):R:=@IntKind.rec (fun _=>R) (.fail "") (.fail "") (.fail "") (κ 9223372036854775808) (.fail "") (.fail "") (.fail "") (.fail "") j
def kH4 (j:IntKind) (κ:Nat->R):R:=@IntKind.rec (fun _=>R) (.fail "") (.fail "") (.fail "") (.fail "") (κ 256) (.fail "") (.fail "") (.fail "") j
def kH5 (j:IntKind) (κ:Nat->R):R:=@IntKind.rec (fun _=>R) (.fail "") (.fail "") (.fail "") (.fail "") (.fail "") (κ 65536) (.fail "") (.fail "") j
def kH6 (j:IntKind) (κ:Nat->R):R:=@IntKind.rec (fun _=>R) (.fail "") (.fail "") (.fail "") (.fail "") (.fail "") (.fail "") (κ 4294967296) (.fail "") j
def kH7 (j:IntKind) (κ:Nat->R):R:=@IntKind.rec (fun _=>R) (.fail "") (.fail "") (.fail "") (.fail "") (.fail "") (.fail "") (.fail "") (κ 18446744073709551616) j
def kH (k:IntKind):IntKind->(Nat->R)->R:=@IntKind.rec (fun _=>IntKind->(Nat->R)->R) kH0 kH1 kH2 kH3 kH4 kH5 kH6 kH7 k
def Ye (H a b:Nat):Bool:=br (Nat.ble H a) (br (Nat.ble H b) (Nat.ble (Nat.succ a) b) true) (br (Nat.ble H b) false (Nat.ble (Nat.succ a) b))
def Al (v:V) (a b:R):R:=@V.rec (fun _=>R) (fun _=>Unit) (AV "") (fun q=>@Bool.rec (fun _=>R) b a q) (AV "") (Dt "") (AV "") (AV "") (Bb "") (Bb "") (C2 "") (AV "") (fun o=>@Ot.rec (fun _=>R) (.fail "") (fun _=>(.fail "")) (fun _=>(.fail "")) (.fail "") (fun _ _ _=>(.fail "")) (fun _ _=>(.fail "")) (.both a b) (fun _ _=>(.fail "")) (fun _ _ _ _=>(.fail "")) (fun _ _ _ _=>(.fail "")) (fun _ _ _=>(.fail "")) (fun _ _=>(.fail "")) o) () (fun _ _ _ _=>()) v
def Ak (q a b:V) (κ:V->R):R:=@V.rec (fun _=>R) (fun _=>Unit) (AV "") (fun q=>@Bool.rec (fun _=>R) (κ b) (κ a) q) (AV "") (Dt "") (AV "") (AV "") (Bb "") (Bb "") (C2 "") (AV "") (Bb "") () (fun _ _ _ _=>()) q
theorem Tw (q a b:V) (κ:V->R):Ak q a b κ=P3 q fun q=>br q (κ a) (κ b):=by cases q <;> rfl
def Ae (u v:V) (κ:V->R):R :=
 @V.rec (fun _=>R) (fun _=>Unit) (fun k a=>@V.rec (fun _=>R) (fun _=>Unit) (fun j b=>kM k j fun M=>Ai (Nat.mod (Nat.add a b) M) fun r=>κ (.int k r)) (Bb "") (AV "") (Dt "") (AV "") (AV "") (Bb "") (Bb "") (C2 "") (AV "") (fun _=>JA .add u v κ) () (fun _ _ _ _=>()) v) (Bb "") (AV "") (Dt "") (fun n c=>Bl v fun m d=>VT n c m d κ) (AV "") (Bb "") (Bb "") (C2 "") (AV "") (fun _=>Cn .add u v κ) () (fun _ _ _ _=>()) u
def Ax (u v:V) (κ:V->R):R :=
 @V.rec (fun _=>R) (fun _=>Unit) (fun k a=>@V.rec (fun _=>R) (fun _=>Unit) (fun j b=>kM k j fun M=>Ai (Nat.mod (Nat.add a (Nat.sub M b)) M) fun r=>κ (.int k r)) (Bb "") (AV "") (Dt "") (AV "") (AV "") (Bb "") (Bb "") (C2 "") (AV "") (fun _=>JA .sub u v κ) () (fun _ _ _ _=>()) v) (Bb "") (AV "") (Dt "") (fun n c=>Bl v fun m d=>.fail "") (AV "") (Bb "") (Bb "") (C2 "") (AV "") (fun _=>Cn .sub u v κ) () (fun _ _ _ _=>()) u
def BK (u v:V) (κ:V->R):R :=
 @V.rec (fun _=>R) (fun _=>Unit) (fun k a=>@V.rec (fun _=>R) (fun _=>Unit) (fun j b=>kM k j fun M=>Ai (Nat.mod (Nat.mul a b) M) fun r=>κ (.int k r)) (Bb "") (AV "") (Dt "") (AV "") (AV "") (Bb "") (Bb "") (C2 "") (AV "") (fun _=>JA .mul u v κ) () (fun _ _ _ _=>()) v) (Bb "") (AV "") (Dt "") (fun n c=>Bl v fun m d=>.fail "") (AV "") (Bb "") (Bb "") (C2 "") (AV "") (fun _=>Cn .mul u v κ) () (fun _ _ _ _=>()) u
def D5 (u v:V) (κ:V->R):R :=
 @V.rec (fun _=>R) (fun _=>Unit) (fun k a=>@V.rec (fun _=>R) (fun _=>Unit) (fun j b=>Re k a j b κ) (Bb "") (AV "") (Dt "") (AV "") (AV "") (Bb "") (Bb "") (C2 "") (AV "") (fun _=>JA .quo u v κ) () (fun _ _ _ _=>()) v) (Bb "") (AV "") (Dt "") (fun n c=>Bl v fun m d=>.fail "") (AV "") (Bb "") (Bb "") (C2 "") (AV "") (fun _=>Cn .quo u v κ) () (fun _ _ _ _=>()) u
def G3 (u v:V) (κ:V->R):R :=
 @V.rec (fun _=>R) (fun _=>Unit) (fun k a=>@V.rec (fun _=>R) (fun _=>Unit) (fun j b=>RP k a j b κ) (Bb "") (AV "") (Dt "") (AV "") (AV "") (Bb "") (Bb "") (C2 "") (AV "") (fun _=>JA .rem u v κ) () (fun _ _ _ _=>()) v) (Bb "") (AV "") (Dt "") (fun n c=>Bl v fun m d=>.fail "") (AV "") (Bb "") (Bb "") (C2 "") (AV "") (fun _=>Cn .rem u v κ) () (fun _ _ _ _=>()) u
def DI (u v:V) (κ:V->R):R :=
 @V.rec (fun _=>R) (fun _=>Unit) (fun k a=>@V.rec (fun _=>R) (fun _=>Unit) (fun j b=>SB k a j b κ) (Bb "") (AV "") (Dt "") (AV "") (AV "") (Bb "") (Bb "") (C2 "") (AV "") (fun _=>JA .and u v κ) () (fun _ _ _ _=>()) v) (Bb "") (AV "") (Dt "") (fun n c=>Bl v fun m d=>.fail "") (AV "") (Bb "") (Bb "") (C2 "") (AV "") (fun _=>Cn .and u v κ) () (fun _ _ _ _=>()) u
def N0 (u v:V) (κ:V->R):R :=
 @V.rec (fun _=>R) (fun _=>Unit) (fun k a=>@V.rec (fun _=>R) (fun _=>Unit) (fun j b=>WJ k a j b κ) (Bb "") (AV "") (Dt "") (AV "") (AV "") (Bb "") (Bb "") (C2 "") (AV "") (fun _=>JA .or u v κ) () (fun _ _ _ _=>()) v) (Bb "") (AV "") (Dt "") (fun n c=>Bl v fun m d=>.fail "") (AV "") (Bb "") (Bb "") (C2 "") (AV "") (fun _=>Cn .or u v κ) () (fun _ _ _ _=>()) u
def C3 (u v:V) (κ:V->R):R :=
 @V.rec (fun _=>R) (fun _=>Unit) (fun k a=>@V.rec (fun _=>R) (fun _=>Unit) (fun j b=>TC k a j b κ) (Bb "") (AV "") (Dt "") (AV "") (AV "") (Bb "") (Bb "") (C2 "") (AV "") (fun _=>JA .xor u v κ) () (fun _ _ _ _=>()) v) (Bb "") (AV "") (Dt "") (fun n c=>Bl v fun m d=>.fail "") (AV "") (Bb "") (Bb "") (C2 "") (AV "") (fun _=>Cn .xor u v κ) () (fun _ _ _ _=>()) u
def H9 (u v:V) (κ:V->R):R :=
 @V.rec (fun _=>R) (fun _=>Unit) (fun k a=>@V.rec (fun _=>R) (fun _=>Unit) (fun j b=>SU k a j b κ) (Bb "") (AV "") (Dt "") (AV "") (AV "") (Bb "") (Bb "") (C2 "") (AV "") (fun _=>JA .shl u v κ) () (fun _ _ _ _=>()) v) (Bb "") (AV "") (Dt "") (fun n c=>Bl v fun m d=>.fail "") (AV "") (Bb "") (Bb "") (C2 "") (AV "") (fun _=>Cn .shl u v κ) () (fun _ _ _ _=>()) u
def CO (u v:V) (κ:V->R):R :=
 @V.rec (fun _=>R) (fun _=>Unit) (fun k a=>@V.rec (fun _=>R) (fun _=>Unit) (fun j b=>R9 k a j b κ) (Bb "") (AV "") (Dt "") (AV "") (AV "") (Bb "") (Bb "") (C2 "") (AV "") (fun _=>JA .shr u v κ) () (fun _ _ _ _=>()) v) (Bb "") (AV "") (Dt "") (fun n c=>Bl v fun m d=>.fail "") (AV "") (Bb "") (Bb "") (C2 "") (AV "") (fun _=>Cn .shr u v κ) () (fun _ _ _ _=>()) u
def S5 (u v:V) (κ:V->R):R :=
 @V.rec (fun _=>R) (fun _=>Unit) (fun k a=>@V.rec (fun _=>R) (fun _=>Unit) (fun j b=>NV k a j b κ) (Bb "") (AV "") (Dt "") (AV "") (AV "") (Bb "") (Bb "") (C2 "") (AV "") (fun _=>JA .andNot u v κ) () (fun _ _ _ _=>()) v) (Bb "") (AV "") (Dt "") (fun n c=>Bl v fun m d=>.fail "") (AV "") (Bb "") (Bb "") (C2 "") (AV "") (fun _=>Cn .andNot u v κ) () (fun _ _ _ _=>()) u
def Ar (u v:V) (κ:V->R):R :=
 @V.rec (fun _=>R) (fun _=>Unit) (fun k a=>@V.rec (fun _=>R) (fun _=>Unit) (fun j b=>kM k j fun _=>CH (Nat.beq a b) fun r=>κ (.bool r)) (Bb "") (AV "") (Dt "") (AV "") (AV "") (Bb "") (Bb "") (C2 "") (AV "") (fun _=>JA .eql u v κ) () (fun _ _ _ _=>()) v) (Bb "") (AV "") (Dt "") (fun n c=>Bl v fun m d=>Vk n c m d κ) (AV "") (Bb "") (Bb "") (C2 "") (AV "") (fun _=>Cn .eql u v κ) () (fun _ _ _ _=>()) u
def AI (u v:V) (κ:V->R):R :=
 @V.rec (fun _=>R) (fun _=>Unit) (fun k a=>@V.rec (fun _=>R) (fun _=>Unit) (fun j b=>kM k j fun _=>br (Nat.beq a b) (κ (.bool false)) (κ (.bool true))) (Bb "") (AV "") (Dt "") (AV "") (AV "") (Bb "") (Bb "") (C2 "") (AV "") (fun _=>JA .neq u v κ) () (fun _ _ _ _=>()) v) (Bb "") (AV "") (Dt "") (fun n c=>Bl v fun m d=>Zy n c m d κ) (AV "") (Bb "") (Bb "") (C2 "") (AV "") (fun _=>Cn .neq u v κ) () (fun _ _ _ _=>()) u
def An (u v:V) (κ:V->R):R :=
 @V.rec (fun _=>R) (fun _=>Unit) (fun k a=>@V.rec (fun _=>R) (fun _=>Unit) (fun j b=>kH k j fun H=>CH (Ye H a b) fun r=>κ (.bool r)) (Bb "") (AV "") (Dt "") (AV "") (AV "") (Bb "") (Bb "") (C2 "") (AV "") (fun _=>JA .lss u v κ) () (fun _ _ _ _=>()) v) (Bb "") (AV "") (Dt "") (fun n c=>Bl v fun m d=>Z3 n c m d κ) (AV "") (Bb "") (Bb "") (C2 "") (AV "") (fun _=>Cn .lss u v κ) () (fun _ _ _ _=>()) u
def BV (u v:V) (κ:V->R):R :=
 @V.rec (fun _=>R) (fun _=>Unit) (fun k a=>@V.rec (fun _=>R) (fun _=>Unit) (fun j b=>kH k j fun H=>br (Ye H b a) (κ (.bool false)) (κ (.bool true))) (Bb "") (AV "") (Dt "") (AV "") (AV "") (Bb "") (Bb "") (C2 "") (AV "") (fun _=>JA .leq u v κ) () (fun _ _ _ _=>()) v) (Bb "") (AV "") (Dt "") (fun n c=>Bl v fun m d=>.fail "") (AV "") (Bb "") (Bb "") (C2 "") (AV "") (fun _=>Cn .leq u v κ) () (fun _ _ _ _=>()) u
def B2 (u v:V) (κ:V->R):R :=
 @V.rec (fun _=>R) (fun _=>Unit) (fun k a=>@V.rec (fun _=>R) (fun _=>Unit) (fun j b=>kH k j fun H=>CH (Ye H b a) fun r=>κ (.bool r)) (Bb "") (AV "") (Dt "") (AV "") (AV "") (Bb "") (Bb "") (C2 "") (AV "") (fun _=>JA .gtr u v κ) () (fun _ _ _ _=>()) v) (Bb "") (AV "") (Dt "") (fun n c=>Bl v fun m d=>.fail "") (AV "") (Bb "") (Bb "") (C2 "") (AV "") (fun _=>Cn .gtr u v κ) () (fun _ _ _ _=>()) u
def Ba (u v:V) (κ:V->R):R :=
 @V.rec (fun _=>R) (fun _=>Unit) (fun k a=>@V.rec (fun _=>R) (fun _=>Unit) (fun j b=>kH k j fun H=>br (Ye H a b) (κ (.bool false)) (κ (.bool true))) (Bb "") (AV "") (Dt "") (AV "") (AV "") (Bb "") (Bb "") (C2 "") (AV "") (fun _=>JA .geq u v κ) () (fun _ _ _ _=>()) v) (Bb "") (AV "") (Dt "") (fun n c=>Bl v fun m d=>ZF n c m d κ) (AV "") (Bb "") (Bb "") (C2 "") (AV "") (fun _=>Cn .geq u v κ) () (fun _ _ _ _=>()) u
abbrev Va (op:BinOp):V->V->(V->R)->R:=@BinOp.rec (fun _=>V->V->(V->R)->R) Ae Ax BK D5 G3 DI N0 C3 H9 CO S5 Ar AI An BV B2 Ba op
theorem TY (op:BinOp) (u v:V) (κ:V->R):Va op u v κ=MU op u v κ:=by
 cases u with
 | int k a =>
  cases v with
  | int j b =>
   cases op
   case add=>cases k <;> cases j <;> rfl
   case sub=>cases k <;> cases j <;> rfl
   case mul=>cases k <;> cases j <;> rfl
   case eql=>cases k <;> cases j <;> rfl
   case neq=>cases k <;> cases j <;> rfl
   case lss=>cases k <;> cases j <;> rfl
   case leq=>cases k <;> cases j <;> rfl
   case gtr=>cases k <;> cases j <;> rfl
   case geq=>cases k <;> cases j <;> rfl
   all_goals rfl
  | _=>cases op <;> rfl
 | str n c=>cases op <;> rfl
 | _=>cases op <;> rfl
def Db (m:Nat):List V->V->(List V->R)->R :=
 @Nat.rec (fun _=>List V->V->(List V->R)->R) (fun xs v k=>@List.rec V (fun _=>R) (.fail "") (fun _ ys _=>k (v::ys)) xs)
  (fun _ ih xs v k=>@List.rec V (fun _=>R) (.fail "") (fun x ys _=>ih ys v fun zs=>k (x::zs)) xs) m
def Qv (off size:Nat) (z:List V) (κ:List V->R) (l:List V):R:=GJ l fun m=>br (Nat.beq m size) (Lh z off l κ) (.fail "")
def Bn (off size:Nat) (v:V) (z:List V) (κ:List V->R):R:=DQ v (Qv off size z κ)
def A9 (off:Nat) (v:V) (z:List V) (κ:List V->R):R :=
 @V.rec (fun _=>R) (fun _=>Unit) (fun _ _=>Db off z v κ) (fun _=>Db off z v κ) (fun _ _=>Db off z v κ) (fun _ _ _ _ _ _=>Db off z v κ) (fun _ _=>Db off z v κ) (fun l _=>Qv off 1 z κ l) (fun _=>Db off z v κ) (fun _=>Db off z v κ) (fun _ _ _=>Db off z v κ) (AV "") (fun o=>@Ot.rec (fun _=>R) (.fail "") (fun _=>Db off z v κ) (Bb "") (.fail "") (fun _ _ _=>Db off z v κ) (fun _ _=>Db off z v κ) (Db off z v κ) (fun _ _=>Db off z v κ) (fun _ _ _ _=>Db off z v κ) (fun _ _ _ _=>Db off z v κ) (fun _ _ _=>Db off z v κ) (fun _ _=>Db off z v κ) o) () (fun _ _ _ _=>()) v
theorem KO (off:Nat):∀ (z:List V) (v:V) (κ:List V->R),Db off z v κ=Lh z off [v] κ:=by
 induction off with
 | zero=>intro z v κ; cases z <;> rfl
 | succ off ih =>
  intro z v κ
  cases z with
  | nil=>rfl
  | cons x z =>
   have e1:Db (off+1) (x::z) v κ=Db off z v fun zs=>κ (x::zs):=rfl
   rw [e1,ih]
   have e2:Lh (x::z) (off+1) [v] κ=Dq (off+1) (x::z) fun a=>E6 (off+2) (x::z) fun b=>ES [v] b fun t=>ES a t κ:=rfl
   have e3:Lh z off [v] (fun zs=>κ (x::zs))=Dq off z fun a=>E6 (off+1) z fun b=>ES [v] b fun t=>ES a t fun zs=>κ (x::zs):=rfl
   rw [e2,e3]
   have e4:∀ F:List V->R,Dq (off+1) (x::z) F=Dq off z fun a=>F (x::a):=fun F=>rfl
   rw [e4]; rfl
theorem Pk (off:Nat) (v:V) (z:List V) (κ:List V->R):A9 off v z κ=Bn off 1 v z κ:=by
 cases v with
 | agg l=>rfl
 | tup l=>rfl
 | oth o=>cases o with
  | any=>rfl
  | yl p=>rfl
  | no=>rfl
  | _=>exact KO off z _ κ
 | _=>exact KO off z _ κ
abbrev Iv (off size:Nat) (v:V) (z:List V) (κ:List V->R):R:=@Bool.rec (fun _=>R) (Bn off size v z κ) (A9 off v z κ) (Nat.beq size 1)
theorem PM (off size:Nat) (v:V) (z:List V) (κ:List V->R):Iv off size v z κ=Bn off size v z κ:=by
 unfold Iv
 cases hb:Nat.beq size 1 with
 | true=>rw [Nat.eq_of_beq_eq_true hb]; exact Pk off v z κ
 | false=>rfl
def HA.selR (d:D):HA->(Ch->R)->R :=
 @D.rec (fun _=>HA->(Ch->R)->R) (fun p k=>@HA.rec (fun _=>R) (fun A B C E F G I J L M N O P Q T U=>k A) p) (fun p k=>@HA.rec (fun _=>R) (fun A B C E F G I J L M N O P Q T U=>k B) p) (fun p k=>@HA.rec (fun _=>R) (fun A B C E F G I J L M N O P Q T U=>k C) p) (fun p k=>@HA.rec (fun _=>R) (fun A B C E F G I J L M N O P Q T U=>k E) p) (fun p k=>@HA.rec (fun _=>R) (fun A B C E F G I J L M N O P Q T U=>k F) p) (fun p k=>@HA.rec (fun _=>R) (fun A B C E F G I J L M N O P Q T U=>k G) p) (fun p k=>@HA.rec (fun _=>R) (fun A B C E F G I J L M N O P Q T U=>k I) p) (fun p k=>@HA.rec (fun _=>R) (fun A B C E F G I J L M N O P Q T U=>k J) p) (fun p k=>@HA.rec (fun _=>R) (fun A B C E F G I J L M N O P Q T U=>k L) p) (fun p k=>@HA.rec (fun _=>R) (fun A B C E F G I J L M N O P Q T U=>k M) p) (fun p k=>@HA.rec (fun _=>R) (fun A B C E F G I J L M N O P Q T U=>k N) p) (fun p k=>@HA.rec (fun _=>R) (fun A B C E F G I J L M N O P Q T U=>k O) p) (fun p k=>@HA.rec (fun _=>R) (fun A B C E F G I J L M N O P Q T U=>k P) p) (fun p k=>@HA.rec (fun _=>R) (fun A B C E F G I J L M N O P Q T U=>k Q) p) (fun p k=>@HA.rec (fun _=>R) (fun A B C E F G I J L M N O P Q T U=>k T) p) (fun p k=>@HA.rec (fun _=>R) (fun A B C E F G I J L M N O P Q T U=>k U) p) d
theorem HA.selR_eq (d:D) (p:HA) (k:Ch->R):HA.selR d p k=k (HA.sel d p):=by
 cases d <;> cases p <;> rfl
def HA.opR (d:D):HA->(Ch->(Ch->(HA->R)->R)->R)->R :=
 @D.rec (fun _=>HA->(Ch->(Ch->(HA->R)->R)->R)->R) (fun p k=>@HA.rec (fun _=>R) (fun A B C E F G I J L M N O P Q T U=>k A fun v q=>q (.mk v B C E F G I J L M N O P Q T U)) p) (fun p k=>@HA.rec (fun _=>R) (fun A B C E F G I J L M N O P Q T U=>k B fun v q=>q (.mk A v C E F G I J L M N O P Q T U)) p) (fun p k=>@HA.rec (fun _=>R) (fun A B C E F G I J L M N O P Q T U=>k C fun v q=>q (.mk A B v E F G I J L M N O P Q T U)) p) (fun p k=>@HA.rec (fun _=>R) (fun A B C E F G I J L M N O P Q T U=>k E fun v q=>q (.mk A B C v F G I J L M N O P Q T U)) p) (fun p k=>@HA.rec (fun _=>R) (fun A B C E F G I J L M N O P Q T U=>k F fun v q=>q (.mk A B C E v G I J L M N O P Q T U)) p) (fun p k=>@HA.rec (fun _=>R) (fun A B C E F G I J L M N O P Q T U=>k G fun v q=>q (.mk A B C E F v I J L M N O P Q T U)) p) (fun p k=>@HA.rec (fun _=>R) (fun A B C E F G I J L M N O P Q T U=>k I fun v q=>q (.mk A B C E F G v J L M N O P Q T U)) p) (fun p k=>@HA.rec (fun _=>R) (fun A B C E F G I J L M N O P Q T U=>k J fun v q=>q (.mk A B C E F G I v L M N O P Q T U)) p) (fun p k=>@HA.rec (fun _=>R) (fun A B C E F G I J L M N O P Q T U=>k L fun v q=>q (.mk A B C E F G I J v M N O P Q T U)) p) (fun p k=>@HA.rec (fun _=>R) (fun A B C E F G I J L M N O P Q T U=>k M fun v q=>q (.mk A B C E F G I J L v N O P Q T U)) p) (fun p k=>@HA.rec (fun _=>R) (fun A B C E F G I J L M N O P Q T U=>k N fun v q=>q (.mk A B C E F G I J L M v O P Q T U)) p) (fun p k=>@HA.rec (fun _=>R) (fun A B C E F G I J L M N O P Q T U=>k O fun v q=>q (.mk A B C E F G I J L M N v P Q T U)) p) (fun p k=>@HA.rec (fun _=>R) (fun A B C E F G I J L M N O P Q T U=>k P fun v q=>q (.mk A B C E F G I J L M N O v Q T U)) p) (fun p k=>@HA.rec (fun _=>R) (fun A B C E F G I J L M N O P Q T U=>k Q fun v q=>q (.mk A B C E F G I J L M N O P v T U)) p) (fun p k=>@HA.rec (fun _=>R) (fun A B C E F G I J L M N O P Q T U=>k T fun v q=>q (.mk A B C E F G I J L M N O P Q v U)) p) (fun p k=>@HA.rec (fun _=>R) (fun A B C E F G I J L M N O P Q T U=>k U fun v q=>q (.mk A B C E F G I J L M N O P Q T v)) p) d
theorem HA.opR_eq (d:D) (p:HA) (k:Ch->(Ch->(HA->R)->R)->R):HA.opR d p k=k (HA.sel d p) fun v q=>q (HA.setS d p v):=by
 cases d <;> cases p <;> rfl
def HB.selR (d:D):HB->(HA->R)->R :=
 @D.rec (fun _=>HB->(HA->R)->R) (fun p k=>@HB.rec (fun _=>R) (fun A B C E F G I J L M N O P Q T U=>k A) p) (fun p k=>@HB.rec (fun _=>R) (fun A B C E F G I J L M N O P Q T U=>k B) p) (fun p k=>@HB.rec (fun _=>R) (fun A B C E F G I J L M N O P Q T U=>k C) p) (fun p k=>@HB.rec (fun _=>R) (fun A B C E F G I J L M N O P Q T U=>k E) p) (fun p k=>@HB.rec (fun _=>R) (fun A B C E F G I J L M N O P Q T U=>k F) p) (fun p k=>@HB.rec (fun _=>R) (fun A B C E F G I J L M N O P Q T U=>k G) p) (fun p k=>@HB.rec (fun _=>R) (fun A B C E F G I J L M N O P Q T U=>k I) p) (fun p k=>@HB.rec (fun _=>R) (fun A B C E F G I J L M N O P Q T U=>k J) p) (fun p k=>@HB.rec (fun _=>R) (fun A B C E F G I J L M N O P Q T U=>k L) p) (fun p k=>@HB.rec (fun _=>R) (fun A B C E F G I J L M N O P Q T U=>k M) p) (fun p k=>@HB.rec (fun _=>R) (fun A B C E F G I J L M N O P Q T U=>k N) p) (fun p k=>@HB.rec (fun _=>R) (fun A B C E F G I J L M N O P Q T U=>k O) p) (fun p k=>@HB.rec (fun _=>R) (fun A B C E F G I J L M N O P Q T U=>k P) p) (fun p k=>@HB.rec (fun _=>R) (fun A B C E F G I J L M N O P Q T U=>k Q) p) (fun p k=>@HB.rec (fun _=>R) (fun A B C E F G I J L M N O P Q T U=>k T) p) (fun p k=>@HB.rec (fun _=>R) (fun A B C E F G I J L M N O P Q T U=>k U) p) d
theorem HB.selR_eq (d:D) (p:HB) (k:HA->R):HB.selR d p k=k (HB.sel d p):=by
 cases d <;> cases p <;> rfl
def HB.opR (d:D):HB->(HA->(HA->(HB->R)->R)->R)->R :=
 @D.rec (fun _=>HB->(HA->(HA->(HB->R)->R)->R)->R) (fun p k=>@HB.rec (fun _=>R) (fun A B C E F G I J L M N O P Q T U=>k A fun v q=>q (.mk v B C E F G I J L M N O P Q T U)) p) (fun p k=>@HB.rec (fun _=>R) (fun A B C E F G I J L M N O P Q T U=>k B fun v q=>q (.mk A v C E F G I J L M N O P Q T U)) p) (fun p k=>@HB.rec (fun _=>R) (fun A B C E F G I J L M N O P Q T U=>k C fun v q=>q (.mk A B v E F G I J L M N O P Q T U)) p) (fun p k=>@HB.rec (fun _=>R) (fun A B C E F G I J L M N O P Q T U=>k E fun v q=>q (.mk A B C v F G I J L M N O P Q T U)) p) (fun p k=>@HB.rec (fun _=>R) (fun A B C E F G I J L M N O P Q T U=>k F fun v q=>q (.mk A B C E v G I J L M N O P Q T U)) p) (fun p k=>@HB.rec (fun _=>R) (fun A B C E F G I J L M N O P Q T U=>k G fun v q=>q (.mk A B C E F v I J L M N O P Q T U)) p) (fun p k=>@HB.rec (fun _=>R) (fun A B C E F G I J L M N O P Q T U=>k I fun v q=>q (.mk A B C E F G v J L M N O P Q T U)) p) (fun p k=>@HB.rec (fun _=>R) (fun A B C E F G I J L M N O P Q T U=>k J fun v q=>q (.mk A B C E F G I v L M N O P Q T U)) p) (fun p k=>@HB.rec (fun _=>R) (fun A B C E F G I J L M N O P Q T U=>k L fun v q=>q (.mk A B C E F G I J v M N O P Q T U)) p) (fun p k=>@HB.rec (fun _=>R) (fun A B C E F G I J L M N O P Q T U=>k M fun v q=>q (.mk A B C E F G I J L v N O P Q T U)) p) (fun p k=>@HB.rec (fun _=>R) (fun A B C E F G I J L M N O P Q T U=>k N fun v q=>q (.mk A B C E F G I J L M v O P Q T U)) p) (fun p k=>@HB.rec (fun _=>R) (fun A B C E F G I J L M N O P Q T U=>k O fun v q=>q (.mk A B C E F G I J L M N v P Q T U)) p) (fun p k=>@HB.rec (fun _=>R) (fun A B C E F G I J L M N O P Q T U=>k P fun v q=>q (.mk A B C E F G I J L M N O v Q T U)) p) (fun p k=>@HB.rec (fun _=>R) (fun A B C E F G I J L M N O P Q T U=>k Q fun v q=>q (.mk A B C E F G I J L M N O P v T U)) p) (fun p k=>@HB.rec (fun _=>R) (fun A B C E F G I J L M N O P Q T U=>k T fun v q=>q (.mk A B C E F G I J L M N O P Q v U)) p) (fun p k=>@HB.rec (fun _=>R) (fun A B C E F G I J L M N O P Q T U=>k U fun v q=>q (.mk A B C E F G I J L M N O P Q T v)) p) d
theorem HB.opR_eq (d:D) (p:HB) (k:HA->(HA->(HB->R)->R)->R):HB.opR d p k=k (HB.sel d p) fun v q=>q (HB.setS d p v):=by
 cases d <;> cases p <;> rfl
def HC.selR (d:D):HC->(HB->R)->R :=
 @D.rec (fun _=>HC->(HB->R)->R) (fun p k=>@HC.rec (fun _=>R) (fun A B C E F G I J L M N O P Q T U=>k A) p) (fun p k=>@HC.rec (fun _=>R) (fun A B C E F G I J L M N O P Q T U=>k B) p) (fun p k=>@HC.rec (fun _=>R) (fun A B C E F G I J L M N O P Q T U=>k C) p) (fun p k=>@HC.rec (fun _=>R) (fun A B C E F G I J L M N O P Q T U=>k E) p) (fun p k=>@HC.rec (fun _=>R) (fun A B C E F G I J L M N O P Q T U=>k F) p) (fun p k=>@HC.rec (fun _=>R) (fun A B C E F G I J L M N O P Q T U=>k G) p) (fun p k=>@HC.rec (fun _=>R) (fun A B C E F G I J L M N O P Q T U=>k I) p) (fun p k=>@HC.rec (fun _=>R) (fun A B C E F G I J L M N O P Q T U=>k J) p) (fun p k=>@HC.rec (fun _=>R) (fun A B C E F G I J L M N O P Q T U=>k L) p) (fun p k=>@HC.rec (fun _=>R) (fun A B C E F G I J L M N O P Q T U=>k M) p) (fun p k=>@HC.rec (fun _=>R) (fun A B C E F G I J L M N O P Q T U=>k N) p) (fun p k=>@HC.rec (fun _=>R) (fun A B C E F G I J L M N O P Q T U=>k O) p) (fun p k=>@HC.rec (fun _=>R) (fun A B C E F G I J L M N O P Q T U=>k P) p) (fun p k=>@HC.rec (fun _=>R) (fun A B C E F G I J L M N O P Q T U=>k Q) p) (fun p k=>@HC.rec (fun _=>R) (fun A B C E F G I J L M N O P Q T U=>k T) p) (fun p k=>@HC.rec (fun _=>R) (fun A B C E F G I J L M N O P Q T U=>k U) p) d
theorem HC.selR_eq (d:D) (p:HC) (k:HB->R):HC.selR d p k=k (HC.sel d p):=by
 cases d <;> cases p <;> rfl
def HC.opR (d:D):HC->(HB->(HB->(HC->R)->R)->R)->R :=
 @D.rec (fun _=>HC->(HB->(HB->(HC->R)->R)->R)->R) (fun p k=>@HC.rec (fun _=>R) (fun A B C E F G I J L M N O P Q T U=>k A fun v q=>q (.mk v B C E F G I J L M N O P Q T U)) p) (fun p k=>@HC.rec (fun _=>R) (fun A B C E F G I J L M N O P Q T U=>k B fun v q=>q (.mk A v C E F G I J L M N O P Q T U)) p) (fun p k=>@HC.rec (fun _=>R) (fun A B C E F G I J L M N O P Q T U=>k C fun v q=>q (.mk A B v E F G I J L M N O P Q T U)) p) (fun p k=>@HC.rec (fun _=>R) (fun A B C E F G I J L M N O P Q T U=>k E fun v q=>q (.mk A B C v F G I J L M N O P Q T U)) p) (fun p k=>@HC.rec (fun _=>R) (fun A B C E F G I J L M N O P Q T U=>k F fun v q=>q (.mk A B C E v G I J L M N O P Q T U)) p) (fun p k=>@HC.rec (fun _=>R) (fun A B C E F G I J L M N O P Q T U=>k G fun v q=>q (.mk A B C E F v I J L M N O P Q T U)) p) (fun p k=>@HC.rec (fun _=>R) (fun A B C E F G I J L M N O P Q T U=>k I fun v q=>q (.mk A B C E F G v J L M N O P Q T U)) p) (fun p k=>@HC.rec (fun _=>R) (fun A B C E F G I J L M N O P Q T U=>k J fun v q=>q (.mk A B C E F G I v L M N O P Q T U)) p) (fun p k=>@HC.rec (fun _=>R) (fun A B C E F G I J L M N O P Q T U=>k L fun v q=>q (.mk A B C E F G I J v M N O P Q T U)) p) (fun p k=>@HC.rec (fun _=>R) (fun A B C E F G I J L M N O P Q T U=>k M fun v q=>q (.mk A B C E F G I J L v N O P Q T U)) p) (fun p k=>@HC.rec (fun _=>R) (fun A B C E F G I J L M N O P Q T U=>k N fun v q=>q (.mk A B C E F G I J L M v O P Q T U)) p) (fun p k=>@HC.rec (fun _=>R) (fun A B C E F G I J L M N O P Q T U=>k O fun v q=>q (.mk A B C E F G I J L M N v P Q T U)) p) (fun p k=>@HC.rec (fun _=>R) (fun A B C E F G I J L M N O P Q T U=>k P fun v q=>q (.mk A B C E F G I J L M N O v Q T U)) p) (fun p k=>@HC.rec (fun _=>R) (fun A B C E F G I J L M N O P Q T U=>k Q fun v q=>q (.mk A B C E F G I J L M N O P v T U)) p) (fun p k=>@HC.rec (fun _=>R) (fun A B C E F G I J L M N O P Q T U=>k T fun v q=>q (.mk A B C E F G I J L M N O P Q v U)) p) (fun p k=>@HC.rec (fun _=>R) (fun A B C E F G I J L M N O P Q T U=>k U fun v q=>q (.mk A B C E F G I J L M N O P Q T v)) p) d
theorem HC.opR_eq (d:D) (p:HC) (k:HB->(HB->(HC->R)->R)->R):HC.opR d p k=k (HC.sel d p) fun v q=>q (HC.setS d p v):=by
 cases d <;> cases p <;> rfl
def Heap.selR (d:D):Heap->(HC->R)->R :=
 @D.rec (fun _=>Heap->(HC->R)->R) (fun p k=>@Heap.rec (fun _=>R) (fun A B C E F G I J L M N O P Q T U=>k A) p) (fun p k=>@Heap.rec (fun _=>R) (fun A B C E F G I J L M N O P Q T U=>k B) p) (fun p k=>@Heap.rec (fun _=>R) (fun A B C E F G I J L M N O P Q T U=>k C) p) (fun p k=>@Heap.rec (fun _=>R) (fun A B C E F G I J L M N O P Q T U=>k E) p) (fun p k=>@Heap.rec (fun _=>R) (fun A B C E F G I J L M N O P Q T U=>k F) p) (fun p k=>@Heap.rec (fun _=>R) (fun A B C E F G I J L M N O P Q T U=>k G) p) (fun p k=>@Heap.rec (fun _=>R) (fun A B C E F G I J L M N O P Q T U=>k I) p) (fun p k=>@Heap.rec (fun _=>R) (fun A B C E F G I J L M N O P Q T U=>k J) p) (fun p k=>@Heap.rec (fun _=>R) (fun A B C E F G I J L M N O P Q T U=>k L) p) (fun p k=>@Heap.rec (fun _=>R) (fun A B C E F G I J L M N O P Q T U=>k M) p) (fun p k=>@Heap.rec (fun _=>R) (fun A B C E F G I J L M N O P Q T U=>k N) p) (fun p k=>@Heap.rec (fun _=>R) (fun A B C E F G I J L M N O P Q T U=>k O) p) (fun p k=>@Heap.rec (fun _=>R) (fun A B C E F G I J L M N O P Q T U=>k P) p) (fun p k=>@Heap.rec (fun _=>R) (fun A B C E F G I J L M N O P Q T U=>k Q) p) (fun p k=>@Heap.rec (fun _=>R) (fun A B C E F G I J L M N O P Q T U=>k T) p) (fun p k=>@Heap.rec (fun _=>R) (fun A B C E F G I J L M N O P Q T U=>k U) p) d
theorem Heap.selR_eq (d:D) (p:Heap) (k:HC->R):Heap.selR d p k=k (Heap.sel d p):=by
 cases d <;> cases p <;> rfl
def Heap.opR (d:D):Heap->(HC->(HC->(Heap->R)->R)->R)->R :=
 @D.rec (fun _=>Heap->(HC->(HC->(Heap->R)->R)->R)->R) (fun p k=>@Heap.rec (fun _=>R) (fun A B C E F G I J L M N O P Q T U=>k A fun v q=>q (.mk v B C E F G I J L M N O P Q T U)) p) (fun p k=>@Heap.rec (fun _=>R) (fun A B C E F G I J L M N O P Q T U=>k B fun v q=>q (.mk A v C E F G I J L M N O P Q T U)) p) (fun p k=>@Heap.rec (fun _=>R) (fun A B C E F G I J L M N O P Q T U=>k C fun v q=>q (.mk A B v E F G I J L M N O P Q T U)) p) (fun p k=>@Heap.rec (fun _=>R) (fun A B C E F G I J L M N O P Q T U=>k E fun v q=>q (.mk A B C v F G I J L M N O P Q T U)) p) (fun p k=>@Heap.rec (fun _=>R) (fun A B C E F G I J L M N O P Q T U=>k F fun v q=>q (.mk A B C E v G I J L M N O P Q T U)) p) (fun p k=>@Heap.rec (fun _=>R) (fun A B C E F G I J L M N O P Q T U=>k G fun v q=>q (.mk A B C E F v I J L M N O P Q T U)) p) (fun p k=>@Heap.rec (fun _=>R) (fun A B C E F G I J L M N O P Q T U=>k I fun v q=>q (.mk A B C E F G v J L M N O P Q T U)) p) (fun p k=>@Heap.rec (fun _=>R) (fun A B C E F G I J L M N O P Q T U=>k J fun v q=>q (.mk A B C E F G I v L M N O P Q T U)) p) (fun p k=>@Heap.rec (fun _=>R) (fun A B C E F G I J L M N O P Q T U=>k L fun v q=>q (.mk A B C E F G I J v M N O P Q T U)) p) (fun p k=>@Heap.rec (fun _=>R) (fun A B C E F G I J L M N O P Q T U=>k M fun v q=>q (.mk A B C E F G I J L v N O P Q T U)) p) (fun p k=>@Heap.rec (fun _=>R) (fun A B C E F G I J L M N O P Q T U=>k N fun v q=>q (.mk A B C E F G I J L M v O P Q T U)) p) (fun p k=>@Heap.rec (fun _=>R) (fun A B C E F G I J L M N O P Q T U=>k O fun v q=>q (.mk A B C E F G I J L M N v P Q T U)) p) (fun p k=>@Heap.rec (fun _=>R) (fun A B C E F G I J L M N O P Q T U=>k P fun v q=>q (.mk A B C E F G I J L M N O v Q T U)) p) (fun p k=>@Heap.rec (fun _=>R) (fun A B C E F G I J L M N O P Q T U=>k Q fun v q=>q (.mk A B C E F G I J L M N O P v T U)) p) (fun p k=>@Heap.rec (fun _=>R) (fun A B C E F G I J L M N O P Q T U=>k T fun v q=>q (.mk A B C E F G I J L M N O P Q v U)) p) (fun p k=>@Heap.rec (fun _=>R) (fun A B C E F G I J L M N O P Q T U=>k U fun v q=>q (.mk A B C E F G I J L M N O P Q T v)) p) d
theorem Heap.opR_eq (d:D) (p:Heap) (k:HC->(HC->(Heap->R)->R)->R):Heap.opR d p k=k (Heap.sel d p) fun v q=>q (Heap.setS d p v):=by
 cases d <;> cases p <;> rfl
def Bk (p:K4) (h:Heap) (κ:Ch->R):R :=
 @K4.rec (fun _=>R) (fun a b c d=>Heap.selR a h fun x=>HC.selR b x fun y=>HB.selR c y fun z=>HA.selR d z κ) p
theorem Bc (p:K4) (h:Heap) (κ:Ch->R):Bk p h κ=κ (AL p h):=by
 cases p; simp only [Bk,Heap.selR_eq,HC.selR_eq,HB.selR_eq,HA.selR_eq,AL]
def Tp (p:K4) (h:Heap) (κ:Ch->(Ch->(Heap->R)->R)->R):R :=
 @K4.rec (fun _=>R) (fun a b c d=>Heap.opR a h fun x px=>HC.opR b x fun y py=>HB.opR c y fun z pz=>HA.opR d z fun o po=>κ o fun o k=>po o fun z=>pz z fun y=>py y fun x=>px x k) p
theorem Nv (p:K4) (h:Heap) (κ:Ch->(Ch->(Heap->R)->R)->R):Tp p h κ=κ (AL p h) fun o k=>k (B5 p h o):=by
 cases p
 simp only [Tp,Heap.opR_eq,HC.opR_eq,HB.opR_eq,HA.opR_eq,AL,B5,Fo,Heap.setK_eq,HC.setK_eq,HB.setK_eq,HA.setK_eq,Heap.selK_eq,HC.selK_eq,HB.selK_eq]
 rfl
def Bx (p:K4) (h:Heap) (o:Ch) (κ:Heap->R):R:=Tp p h fun _ put=>put o κ
theorem BD (p:K4) (h:Heap) (o:Ch) (κ:Heap->R):Bx p h o κ=Fo p h o κ:=by
 rw [Bx,Nv,Bt]
def R2 (p:K4) (h:Heap) (κ:Cs->Bool->Option K4->R):R :=
 Bk p h fun o=>@Option.rec Ob (fun _=>R) (.fail "") (fun o=>@Ob.rec (fun _=>R) κ (C2 "") (Fp "") (.fail "") (AV "") o) o
theorem GA:R2=IJ:=by
 funext p h κ
 rw [R2,Bc,IJ,DF]
def UW (p:K4) (h:Heap) (κ:List (V×V)->List Nat->Nat->R):R :=
 Bk p h fun o=>@Option.rec Ob (fun _=>R) (.fail "") (fun o=>@Ob.rec (fun _=>R) (C2 "") κ (Fp "") (.fail "") (AV "") o) o
theorem Kz:UW=P1:=by
 funext p h κ
 rw [UW,Bc,P1,DF]
def HM (h:Heap) (n:K4) (o:Ob) (κ:Heap->K4->R):R:=Bx n h (some o) fun h'=>n.nx fun n'=>κ h' n'
theorem HX:HM=D2:=by
 funext h n o κ
 rw [HM,BD,D2]
def MQ (h:Heap) (p:K4) (f:Cs->(Cs->R)->R) (κ:Heap->R):R :=
 Tp p h fun o put=>@Option.rec Ob (fun _=>R) (.fail "") (fun o=>@Ob.rec (fun _=>R) (fun cs sup prev=>br sup (.fail "") (f cs fun cs' =>
  @Option.rec K4 (fun _=>R) (put (some (.c cs' false none)) κ) (fun q=>Bx q h none fun h=>Bx p h (some (.c cs' false none)) κ) prev)) (C2 "") (Fp "") (.fail "") (AV "") o) o
theorem Mx (h:Heap) (p:K4) (f:Cs->(Cs->R)->R) (κ:Heap->R):MQ h p f κ=IJ p h fun cs sup prev=>br sup (.fail "") (f cs fun cs'=>LA prev h fun h=>Fo p h (some (.c cs' false none)) κ):=by
 rw [MQ,Nv,IJ,DF]
 cases AL p h with
 | none=>rfl
 | some o=>cases o with
  | m es bs c=>rfl
  | it _ _ _ _=>rfl
  | it0=>rfl
  | lp _ _=>rfl
  | c cs sup prev =>
   show br sup _ (f cs fun cs'=>_)=br sup _ (f cs fun cs'=>_)
   congr 2; funext cs'
   cases prev with
   | none=>exact (Bt _ _ _ _).symm
   | some q=>exact (BD _ _ _ _).trans (congrArg _ (funext fun h=>BD _ _ _ _))
def Hs (h:Heap) (p:K4) (off:Nat) (y:Cs) (κ:Heap->R):R:=MQ h p (fun cs k=>NJ cs off y k) κ
theorem IH:Hs=Eb:=by
 funext h p off y κ
 exact Mx _ _ _ _
def V6 (cs:Cs) (off:Nat) (v:V) (κ:Cs->R):R :=
 @Cs.rec (fun _=>R) (fun xs=>Db off xs v fun zs=>κ (.l zs)) (fun n c=>Mb v (fun r=>NR n c off 1 r κ) (.fail "")) cs
theorem Sd (cs:Cs) (off:Nat) (v:V) (κ:Cs->R):V6 cs off v κ=NJ cs off (.l [v]) κ:=by
 cases cs with
 | l xs=>exact KO off xs v _
 | b n c =>
  show Mb v (fun r=>NR n c off 1 r κ) _=Mb v (fun r=>Ai (Nat.succ 0) fun n'=>Ai (Nat.add r (Nat.mul 256 0)) fun d=>NR n c off n' d κ) _
  congr 1; funext r
  rw [Ah,Ah]; rfl
def Jx (esz eb:Nat) (x:V) (m:Nat) (y:Cs) (h:Heap) (n:K4) (κ:KV):R :=
 CX x
  (br (Nat.beq m 0) (κ (.nil .sl) h n) (br (Nat.ble (Nat.mul (Nat.add (Nat.mul 4 m) 4096) eb) 281474976710656) (HM h n (.c y false none) fun h' n'=>κ (.sl n 0 m m false esz) h' n') (.fail "")))
  (fun p off len cap ex esz'=>br (Nat.beq esz' esz) (br (Nat.beq m 0) (κ x h n) (Ai (Nat.add len m) fun need =>
   br (Nat.ble need cap)
    (Ai (Nat.add off (Nat.mul len esz)) fun j=>Hs h p j y fun h'=>κ (.sl p off need cap ex esz) h' n)
    (br (Nat.ble (Nat.mul (Nat.add (Nat.mul 4 need) 4096) eb) 281474976710656)
     (R2 p h fun cs sup prev=>Ai (Nat.mul len esz) fun l=>BY cs off l fun a=>VO a y fun z =>
      br ex
       (HM h n (.c z false none) fun h' n'=>κ (.sl n 0 need need false esz) h' n')
       (br sup (.fail "")
        (Ai (Nat.add off l) fun j=>BY cs 0 j fun old=>LA prev h fun h=>Fo p h (some (.c old true none)) fun h =>
         HM h n (.c z false (some p)) fun h' n'=>κ (.sl n 0 need need false esz) h' n')))
     (.fail "")))) (.fail ""))
theorem Pw:Jx=E2:=by
 funext esz eb x m y h n κ
 rw [Jx,HX,IH,GA]; rfl
def AP (v:V) (h:Heap) (n:K4) (κ:KV):R :=
 DQ v fun l=>HM h n (.c (.l l) false none) fun h' n'=>κ (.ptr n 0) h' n'
def AH (cs:Cs) (h:Heap) (n:K4) (κ:KV):R :=
 HM h n (.c cs false none) fun h' n'=>κ (.ptr n 0) h' n'
def B4 (u8:Bool) (len esz:Nat) (l:List V) (h:Heap) (n:K4) (κ:KV):R :=
 br u8 (CM l (fun m c=>HM h n (.c (.b m c) false none) fun h' n'=>κ (.sl n 0 len len true esz) h' n') (.fail "")) (HM h n (.c (.l l) false none) fun h' n'=>κ (.sl n 0 len len true esz) h' n')
def Aa (v:V) (h:Heap) (κ:V->R):R :=
 @V.rec (fun _=>R) (fun _=>Unit) (AV "") (Bb "") (fun p off=>R2 p h fun cs _ _=>FY cs off κ) (Dt "") (AV "") (AV "") (Bb "") (Bb "") (C2 "") (AV "") (fun o=>RQ o (fun i j m=>br (Nat.ble 1 m) (UM i j κ) (.fail "")) (.fail "")) () (fun _ _ _ _=>()) v
def Av (m:Nat) (v:V) (h:Heap) (κ:V->R):R :=
 IR v fun p off=>R2 p h fun cs _ _=>BY cs off m fun y=>Eg y fun l=>κ (.agg l)
def AN (m:Nat) (u v:V) (h:Heap) (κ:Heap->R):R :=
 IR u fun p off=>DQ v fun l=>GJ l fun k=>br (Nat.beq k m) (Hs h p off (.l l) κ) (.fail "")
def MV (h:Heap) (p:K4) (off:Nat) (v:V) (κ:Heap->R):R :=
 MQ h p (fun cs k=>V6 cs off v k) κ
def Au (u v:V) (h:Heap) (κ:Heap->R):R :=
 @V.rec (fun _=>R) (fun _=>Unit) (AV "") (Bb "") (fun p off=>@V.rec (fun _=>R) (fun _=>Unit) (fun _ _=>MV h p off v κ) (fun _=>MV h p off v κ) (fun _ _=>MV h p off v κ) (fun _ _ _ _ _ _=>MV h p off v κ) (fun _ _=>MV h p off v κ) (fun l _=>GJ l fun k=>br (Nat.beq k 1) (Hs h p off (.l l) κ) (.fail "")) (fun _=>MV h p off v κ) (fun _=>MV h p off v κ) (fun _ _ _=>MV h p off v κ) (AV "") (fun o=>@Ot.rec (fun _=>R) (.fail "") (fun _=>MV h p off v κ) (Bb "") (.fail "") (fun _ _ _=>MV h p off v κ) (fun _ _=>MV h p off v κ) (MV h p off v κ) (fun _ _=>MV h p off v κ) (fun _ _ _ _=>MV h p off v κ) (fun _ _ _ _=>MV h p off v κ) (fun _ _ _=>MV h p off v κ) (fun _ _=>MV h p off v κ) o) () (fun _ _ _ _=>()) v) (Dt "") (AV "") (AV "") (Bb "") (Bb "") (C2 "") (AV "") (Bb "") () (fun _ _ _ _=>()) u
theorem SG (h:Heap) (p:K4) (off:Nat) (v:V) (κ:Heap->R):MV h p off v κ=Hs h p off (.l [v]) κ:=by
 rw [IH,MV,Mx]
 simp only [Sd]; rfl
theorem Tn (u v:V) (h:Heap) (κ:Heap->R):Au u v h κ=AN 1 u v h κ:=by
 cases u with
 | ptr p off =>
  cases v with
  | agg l=>rfl
  | tup l=>rfl
  | oth o=>cases o with
   | any=>rfl
   | yl p=>rfl
   | no=>rfl
   | _=>exact SG _ _ _ _ _
  | _=>exact SG _ _ _ _ _
 | _=>rfl
abbrev UQ {β:Type} (c:Bool) (t f:β):β:=@Bool.rec (fun _=>β) f t c
abbrev Sn (m:Nat) (u v:V) (h:Heap) (κ:Heap->R):R:=UQ (Nat.beq m 1) (Au u v h κ) (AN m u v h κ)
theorem Su (m:Nat) (u v:V) (h:Heap) (κ:Heap->R):Sn m u v h κ=AN m u v h κ:=by
 unfold Sn
 cases hb:Nat.beq m 1 with
 | true=>rw [Nat.eq_of_beq_eq_true hb]; exact Tn u v h κ
 | false=>rfl
def Ts (p:K4) (h:Heap) (f:List (V×V)->List Nat->Nat->(List (V×V)->List Nat->Nat->R)->R) (κ:Heap->R):R :=
 Tp p h fun o put=>@Option.rec Ob (fun _=>R) (.fail "") (fun o=>@Ob.rec (fun _=>R) (C2 "") (fun es bs c=>f es bs c fun es bs c=>put (some (.m es bs c)) κ) (Fp "") (.fail "") (AV "") o) o
theorem Qa (p:K4) (h:Heap) (f:List (V×V)->List Nat->Nat->(List (V×V)->List Nat->Nat->R)->R) (κ:Heap->R):Ts p h f κ=P1 p h fun es bs c=>f es bs c fun es bs c=>Fo p h (some (.m es bs c)) κ:=by
 rw [Ts,Nv,P1,DF]
 simp only [Bt]
def A8 (v:V) (κ:V->R):R :=
 @V.rec (fun _=>R) (fun _=>Unit) (AV "") (Bb "") (fun p off=>κ v) (Dt "") (AV "") (AV "") (Bb "") (Bb "") (fun f caps _i=>κ v) (AV "") (Bb "") () (fun _ _ _ _=>()) v
def Bd (neg:Bool) (pl:Plan) (u v:V) (κ:V->R):R :=
 KZ pl u v fun r=>br neg (br r (κ (.bool false)) (κ (.bool true))) (κ (.bool r))
def AJ (v:V) (κ:V->R):R :=
 @V.rec (fun _=>R) (fun _=>Unit) (AV "") (fun q=>@Bool.rec (fun _=>R) (κ (.bool true)) (κ (.bool false)) q) (AV "") (Dt "") (AV "") (AV "") (Bb "") (Bb "") (C2 "") (AV "") (Bb "") () (fun _ _ _ _=>()) v
def M0 (v:V) (κ:V->R):R :=
 FP v fun k r=>Np k 0 k r κ
def OP (v:V) (κ:V->R):R :=
 FP v fun k r=>Ai (Nat.xor (Nat.sub (Mk k) 1) r) fun r=>κ (.int k r)
def AX (k:IntKind) (v:V) (κ:V->R):R :=
 FP v fun j r=>br (Nat.ble (Nat.succ r) (Hk j)) (Ai (Nat.mod r (Mk k)) fun r=>κ (.int k r)) (br (Nat.ble (Mk k) (Mk j)) (Ai (Nat.mod r (Mk k)) fun r=>κ (.int k r)) (Ai (Nat.sub (Mk k) (Nat.sub (Mk j) r)) fun r=>κ (.int k r)))
def Df (v:V) (h:Heap) (κ:V->R):R :=
 CX v (κ (.str 0 0)) (fun p off len cap ex esz=>br (Nat.beq esz 1) (R2 p h fun cs _ _=>BY cs off len fun y=>@Cs.rec (fun _=>R) (fun l=>CM l (fun m c=>κ (.str m c)) (.fail "")) (fun m c=>κ (.str m c)) y) (.fail ""))
def Fs (v:V) (h:Heap) (n:K4) (κ:KV):R :=
 Bl v fun m c=>HM h n (.c (.b m c) false none) fun h' n'=>κ (.sl n 0 m m false 1) h' n'
def Xb (v:V) (κ:V->R):R :=
 Bl v fun _ _=>κ v
def P9 (v:V) (h:Heap) (κ:V->R):R :=
 CX v (.fail "") (fun p _ _ _ _ _=>R2 p h fun _ _ _=>κ v)
def BU (h:Heap) (n:K4) (κ:KV):R :=
 HM h n (.m [] [] 0) fun h' n'=>κ (.map n) h' n'
def HL (eb:Nat) (u8:Bool) (zero:List V) (u v:V) (h:Heap) (n:K4) (κ:KV):R :=
 Iw u fun a=>Iw v fun b=>br (Nat.ble a b) (br (Nat.ble (Nat.mul eb b) 281474976710656) (EH u8 zero b fun y=>HM h n (.c y false none) fun h' n'=>GJ zero fun esz=>κ (.sl n 0 a b true esz) h' n') (.fail "")) (.fail "")
def Fw (o:Option V) (d:Nat) (κ:Nat->R):R :=
 @Option.rec V (fun _=>R) (κ d) (fun v=>Iw v κ) o
def C0 (v:V) (lo hi:Option V) (κ:V->R):R :=
 TZ v (fun l0 l1 _ _=>br (br (E0 hi) true (Nat.beq l0 l1)) (Fw hi l0 fun b=>Fw lo 0 fun a=>br (Nat.ble a b) (br (Nat.ble b l0) (Ai (Nat.sub b a) fun l=>κ (.oth (.ss l l (Nat.succ l) 0))) (.fail "")) (.fail "")) (.fail ""))<|Bl v fun m c=>Fw hi m fun b=>Fw lo 0 fun a=>br (Nat.ble a b) (br (Nat.ble b m) (Ai (Nat.sub b a) fun l=>Ai (Ev.lo (sh c a) l) fun r=>κ (.str l r)) (.fail "")) (.fail "")
def Bz (esz:Nat) (v:V) (lo hi:Option V) (κ:V->R):R :=
 Wn v (fun l0 l1=>br (br (E0 hi) true (Nat.beq l0 l1)) (Fw hi l0 fun b=>Fw lo 0 fun a=>br (Nat.ble a b) (br (Nat.ble b l0) (Ai (Nat.sub b a) fun l=>κ (.oth (.os l l))) (.fail "")) (.fail "")) (.fail ""))<|CX v (Fw hi 0 fun b=>Fw lo 0 fun a=>br (Nat.beq b 0) (br (Nat.beq a 0) (κ (.nil .sl)) (.fail "")) (.fail "")) (fun p off len cap ex esz'=>Fw hi len fun b=>Fw lo 0 fun a=>br (Nat.beq esz' esz) (br (Nat.ble a b) (br (Nat.ble b cap) (Ai (Nat.sub b a) fun l=>Ai (Nat.sub cap a) fun c=>Ai (Nat.add off (Nat.mul a esz)) fun o=>κ (.sl p o l c ex esz)) (.fail "")) (.fail "")) (.fail ""))
def Dw (m esz:Nat) (v:V) (lo hi:Option V) (h:Heap) (κ:V->R):R :=
 IR v fun p off=>R2 p h fun cs _ _=>VN cs fun z=>br (Nat.ble (Nat.add off (Nat.mul m esz)) z) (Fw hi m fun b=>Fw lo 0 fun a=>br (Nat.ble a b) (br (Nat.ble b m) (Ai (Nat.sub b a) fun l=>Ai (Nat.sub m a) fun c=>Ai (Nat.add off (Nat.mul a esz)) fun o=>κ (.sl p o l c true esz)) (.fail "")) (.fail "")) (.fail "")
def A7 (off:Nat) (v:V) (κ:V->R):R :=
 @V.rec (fun _=>R) (fun _=>Unit) (AV "") (Bb "") (fun p o=>Ai (Nat.add o off) fun o=>κ (.ptr p o)) (Dt "") (AV "") (AV "") (Bb "") (Bb "") (C2 "") (AV "") (fun o=>RQ o (fun i j m=>br (Nat.ble (Nat.succ off) m) (Ai (Nat.add j off) fun j=>Ai (Nat.sub m off) fun m=>κ (.oth (.ap i j m))) (.fail "")) (.fail "")) () (fun _ _ _ _=>()) v
def Oh (off size:Nat) (ag:Bool) (v:V) (κ:V->R):R :=
 asAgg v fun l=>br ag (E6 off l fun r=>Dq size r fun r=>κ (.agg r)) (Ee off l κ)
def Aq (esz:Nat) (v u:V) (κ:V->R):R :=
 Iw u fun a=>Hb v (.fail "") (fun p off len cap ex esz'=>br (Nat.beq esz' esz) (br (Nat.ble (Nat.succ a) len) (Ai (Nat.add off (Nat.mul a esz)) fun o=>κ (.ptr p o)) (.fail "")) (.fail "")) (fun o=>PW o (fun i lo hi z=>br (Nat.beq z esz) (br (Nat.ble (Nat.succ a) lo) (Ai (Nat.mul a esz) fun j=>κ (.oth (.ap i j esz))) (.fail "")) (.fail "")) (.fail ""))
def B1 (m esz:Nat) (v u:V) (κ:V->R):R :=
 Iw u fun a=>IR v fun p off=>br (Nat.ble (Nat.succ a) m) (Ai (Nat.add off (Nat.mul a esz)) fun o=>κ (.ptr p o)) (.fail "")
def B8 (v u:V) (κ:V->R):R :=
 Iw u fun a=>Bl v fun m c=>br (Nat.ble (Nat.succ a) m) (Ai (Ev.lo (sh c a) 1) fun r=>κ (.int .u8 r)) (.fail "")
def UR (m esz:Nat) (ag:Bool) (v u:V) (κ:V->R):R :=
 Iw u fun a=>asAgg v fun l=>br (Nat.ble (Nat.succ a) m) (Ai (Nat.mul a esz) fun j=>br ag (E6 j l fun r=>Dq esz r fun r=>κ (.agg r)) (Ee j l κ)) (.fail "")
def BE (pl:Plan) (zero:V) (ok:Bool) (u v:V) (h:Heap) (κ:V->R):R :=
 Ke pl v<|DC u (br ok (κ (.tup [zero,.bool false])) (κ zero)) (fun p=>UW p h fun es _ _=>He pl v es (fun r=>br ok (κ (.tup [r,.bool true])) (κ r)) (br ok (κ (.tup [zero,.bool false])) (κ zero)))
def ET (pl:Plan) (u a b:V) (h:Heap) (κ:Heap->R):R :=
 Ke pl a<|DC u (.fail "") (fun p=>Ts p h (fun es bs c k=>Hv pl a b es fun es=>Vf es bs c fun bs c=>k es bs c) κ)
def Ji (pl:Plan) (u a:V) (h:Heap) (κ:Heap->R):R :=
 Ke pl a<|DC u (κ h) (fun p=>Ts p h (fun es bs c k=>L5 pl a es fun es2=>Le pl a es bs fun bs=>k es2 bs c) κ)
def Aj (i:Nat) (v:V) (κ:V->R):R :=
 Kg v fun l=>Ee i l κ
def A6 (r:R) (κ:KV):R :=
 @R.rec (fun _=>R) (Fp "") (fun v h n=>κ v h n) (fun w=>.fail w) (Fp "") r
def B9 (v:V) (κ:V->R):R :=
 TZ v (fun l0 l1 _ _=>br (Nat.ble (Nat.succ l1) 9223372036854775808) (κ (.oth (.iv .i64 l0 l1))) (.fail ""))<|Bl v fun m _=>Gb m κ
def At (v:V) (κ:V->R):R :=
 Hb v (κ (.int .i64 0)) (fun p off len cap ex esz=>Gb len κ) (fun o=>VS o (fun l0 l1=>br (Nat.ble (Nat.succ l1) 9223372036854775808) (κ (.oth (.iv .i64 l0 l1))) (.fail "")) (PW o (fun i l0 l1 z=>br (Nat.ble (Nat.succ l1) 9223372036854775808) (br (Nat.beq l0 l1) (κ (.int .i64 l0)) (κ (.oth (.iv .i64 l0 l1)))) (.fail "")) (.fail "")))
def QN (v:V) (h:Heap) (κ:V->R):R :=
 DC v (κ (.int .i64 0)) (fun p=>UW p h fun es _ _=>VE es fun m=>Gb m κ)
def Hm (u v:V) (κ:V->R):R:=W9 u v κ
def Ga (u v:V) (κ:V->R):R:=Wi u v κ
def TF (u v w:V) (κ:V->R):R :=
 FP u fun k a=>FP v fun j b=>FP w fun i c=>br (Bj k j) (br (Bj k i) (br (Ho k a b) (br (Ho k b c) (κ w) (κ v)) (br (Ho k a c) (κ w) (κ u))) (.fail "")) (.fail "")
def O1 (v:V) (κ:V->R):R :=
 CX v (κ (.int .i64 0)) (fun p off len cap ex esz=>br ex (Gb cap κ) (.fail ""))
def Tx (u8:Bool) (zero:List V) (v:V) (h:Heap) (κ:Heap->R):R :=
 CX v (κ h) (fun p off len cap ex esz=>GJ zero fun m=>br (Nat.beq m esz) (br (Nat.beq len 0) (κ h) (EH u8 zero len fun y=>Hs h p off y κ)) (.fail ""))
def B3 (esz eb:Nat) (u v:V) (h:Heap) (n:K4) (κ:KV):R :=
 N9 esz v h fun m y=>Jx esz eb u m y h n κ
def Na (esz eb:Nat) (u8:Bool) (zero:List V) (u v:V) (h:Heap) (n:K4) (κ:KV):R :=
 Iw v fun m=>br (Nat.ble (Nat.mul eb m) 281474976710656) (EH u8 zero m fun y=>Jx esz eb u m y h n κ) (.fail "")
def Jb (esz:Nat) (u v:V) (h:Heap) (κ:V->Heap->R):R :=
 N9 esz v h fun m y=>CX u (κ (.int .i64 0) h) (fun p off len cap ex esz'=>br (Nat.beq esz' esz) (Ai (@Bool.rec (fun _=>Nat) len m (Nat.ble m len)) fun k=>br (Nat.beq k 0) (κ (.int .i64 0) h) (Ai (Nat.mul k esz) fun j=>BY y 0 j fun y=>Hs h p off y fun h=>Gb k fun v=>κ v h)) (.fail ""))
abbrev Ib:=Opd->(V->R)->R
abbrev Fj (ε:Ib) (l:List Opd):(List V->R)->R :=
 @List.rec Opd (fun _=>(List V->R)->R) (fun κ=>κ []) (fun o _ ih κ=>ε o fun v=>ih fun vs=>κ (v::vs)) l
abbrev FD (ε:Ib) (o:Option Opd) (κ:Option V->R):R:=@Option.rec Opd (fun _=>R) (κ none) (fun x=>ε x fun v=>κ (some v)) o
abbrev KB (ε:Ib) (l:List Part):List V->(List V->R)->R :=
 @List.rec Part (fun _=>List V->(List V->R)->R) (fun z κ=>κ z) (fun p _ ih z κ=>@Part.rec (fun _=>R) (fun off size x=>ε x fun v=>Iv off size v z fun z=>ih z κ) p) l
structure K3 where
 a:D
 b:D
 c:D
def BC (f:Nat):K3:=⟨D.ofN (f / 256),D.ofN (f / 16 % 16),D.ofN (f % 16)⟩
abbrev FZ:=K3->List V->Heap->K4->R
def DB (cf:FZ) (v:V) (l:List V) (h:Heap) (n:K4) (κ:KV):R:=PT v fun f caps=>ES l caps fun l=>A6 (cf (BC f) l h n) κ
theorem OB (n:Nat):∀ (c:Nat) (κ:Nat->Nat->R) (e:R),En n c (fun l=>CM l κ e)=κ n (c % 256 ^ n):=by
 induction n with
 | zero=>intro c κ e; show κ 0 0=_; rw [Nat.pow_zero,Nat.mod_one]
 | succ n ih =>
  intro c κ e
  have e1:En (n+1) c (fun l=>CM l κ e)=Ai (lo c 1) fun r=>Ai (sh c 1) fun d=>En n d fun zs=>CM (.int .u8 r::zs) κ e:=rfl
  rw [e1,Ah,Ah]
  have hr:lo c 1<256:=by rw [DE]; omega
  have e2:∀ zs,CM (.int .u8 (lo c 1)::zs) κ e=CM zs (fun n m=>Ai (Nat.succ n) fun n=>Ai (Nat.add (lo c 1) (Nat.mul 256 m)) fun c=>κ n c) e:=fun zs=>by
   have:CM (.int .u8 (lo c 1)::zs) κ e=br (Bj .u8 .u8) (br (Nat.ble (lo c 1) 255) (CM zs (fun n m=>Ai (Nat.succ n) fun n=>Ai (Nat.add (lo c 1) (Nat.mul 256 m)) fun c=>κ n c) e) e) e:=rfl
   rw [this,Ap.2 (show lo c 1≤255 by omega)]; rfl
  simp only [e2]
  rw [ih,Ah,Ah]
  have e3:Nat.add (lo c 1) (Nat.mul 256 (sh c 1 % 256 ^ n))=c % 256 ^ (n+1):=by
   rw [DE,EE,Nat.pow_one,Nat.pow_succ',Nat.mod_mul]; rfl
  rw [e3]
theorem T9 (v:V) (h:Heap) (κ:V->R):Df v h κ=CX v (κ (.str 0 0)) (fun p off len cap ex esz=>br (Nat.beq esz 1) (IJ p h fun cs _ _=>BY cs off len fun y=>Eg y fun l=>CM l (fun m c=>κ (.str m c)) (.fail "")) (.fail "")):=by
 unfold Df
 rw [GA]
 congr 1
 funext p off len cap ex esz
 congr 1; congr 1
 funext cs sup prev
 cases cs with
 | l xs=>rfl
 | b n c =>
  show br (Nat.ble (Nat.add off len) n) (Ai (lo (sh c off) len) fun r=>κ (.str len r)) (.fail "")=br (Nat.ble (Nat.add off len) n) (Ai (lo (sh c off) len) fun r=>En len r fun l=>CM l (fun m c=>κ (.str m c)) (.fail "")) (.fail "")
  rw [Ah,Ah,OB,DE,Nat.mod_mod]
abbrev FQ (o:AK):FZ->Ib->Heap->K4->KV->R:=@AK.rec (fun _=>FZ->Ib->Heap->K4->KV->R)
 (fun x cf ε h n κ=>ε x fun v=>κ v h n)
 (fun c a b cf ε h n κ=>ε c fun q=>ε a fun x=>ε b fun y=>Ak q x y fun v=>κ v h n)
 (fun cs cf ε h n κ=>AH cs h n κ)
 (fun x cf ε h n κ=>ε x fun v=>AP v h n κ)
 (fun zero parts cf ε h n κ=>KB ε parts zero fun l=>κ (.agg l) h n)
 (fun u8 len esz zero parts cf ε h n κ=>KB ε parts zero fun l=>B4 u8 len esz l h n κ)
 (fun x cf ε h n κ=>ε x fun v=>Aa v h fun v=>κ v h n)
 (fun m x cf ε h n κ=>ε x fun v=>Av m v h fun v=>κ v h n)
 (fun m a x cf ε h n κ=>ε a fun u=>ε x fun v=>Sn m u v h fun h=>κ Cf h n)
 (fun x cf ε h n κ=>ε x fun v=>A8 v fun v=>κ v h n)
 (fun op x y cf ε h n κ=>ε x fun u=>ε y fun v=>Va op u v fun v=>κ v h n)
 (fun neg pl x y cf ε h n κ=>ε x fun u=>ε y fun v=>Bd neg pl u v fun v=>κ v h n)
 (fun x cf ε h n κ=>ε x fun v=>AJ v fun v=>κ v h n)
 (fun x cf ε h n κ=>ε x fun v=>M0 v fun v=>κ v h n)
 (fun x cf ε h n κ=>ε x fun v=>OP v fun v=>κ v h n)
 (fun k x cf ε h n κ=>ε x fun v=>AX k v fun v=>κ v h n)
 (fun x cf ε h n κ=>ε x fun v=>Df v h fun v=>κ v h n)
 (fun x cf ε h n κ=>ε x fun v=>Fs v h n κ)
 (fun x cf ε h n κ=>ε x fun v=>Xb v fun v=>κ v h n)
 (fun x cf ε h n κ=>ε x fun v=>P9 v h fun v=>κ v h n)
 (fun f caps cf ε h n κ=>Fj ε caps fun l=>κ (.fn f l) h n)
 (fun  cf ε h n κ=>BU h n κ)
 (fun eb u8 zero l c cf ε h n κ=>ε l fun u=>ε c fun v=>HL eb u8 zero u v h n κ)
 (fun x lo hi cf ε h n κ=>ε x fun v=>FD ε lo fun a=>FD ε hi fun b=>C0 v a b fun v=>κ v h n)
 (fun esz x lo hi cf ε h n κ=>ε x fun v=>FD ε lo fun a=>FD ε hi fun b=>Bz esz v a b fun v=>κ v h n)
 (fun m esz x lo hi cf ε h n κ=>ε x fun v=>FD ε lo fun a=>FD ε hi fun b=>Dw m esz v a b h fun v=>κ v h n)
 (fun off x cf ε h n κ=>ε x fun v=>A7 off v fun v=>κ v h n)
 (fun off size ag x cf ε h n κ=>ε x fun v=>Oh off size ag v fun v=>κ v h n)
 (fun esz x i cf ε h n κ=>ε x fun v=>ε i fun u=>Aq esz v u fun v=>κ v h n)
 (fun m esz x i cf ε h n κ=>ε x fun v=>ε i fun u=>B1 m esz v u fun v=>κ v h n)
 (fun x i cf ε h n κ=>ε x fun v=>ε i fun u=>B8 v u fun v=>κ v h n)
 (fun m esz ag x i cf ε h n κ=>ε x fun v=>ε i fun u=>UR m esz ag v u fun v=>κ v h n)
 (fun pl zero ok m k cf ε h n κ=>ε m fun u=>ε k fun v=>BE pl zero ok u v h fun v=>κ v h n)
 (fun pl m k v cf ε h n κ=>ε m fun u=>ε k fun a=>ε v fun b=>ET pl u a b h fun h=>κ Cf h n)
 (fun pl m k cf ε h n κ=>ε m fun u=>ε k fun a=>Ji pl u a h fun h=>κ (.tup []) h n)
 (fun i x cf ε h n κ=>ε x fun v=>Aj i v fun v=>κ v h n)
 (fun f args cf ε h n κ=>Fj ε args fun l=>A6 (cf (BC f) l h n) κ)
 (fun x args cf ε h n κ=>ε x fun v=>Fj ε args fun l=>DB cf v l h n κ)
 (fun x cf ε h n κ=>ε x fun v=>B9 v fun v=>κ v h n)
 (fun x cf ε h n κ=>ε x fun v=>At v fun v=>κ v h n)
 (fun x cf ε h n κ=>ε x fun v=>QN v h fun v=>κ v h n)
 (fun x y cf ε h n κ=>ε x fun u=>ε y fun v=>Hm u v fun v=>κ v h n)
 (fun x y cf ε h n κ=>ε x fun u=>ε y fun v=>Ga u v fun v=>κ v h n)
 (fun esz eb x y cf ε h n κ=>ε x fun u=>ε y fun v=>B3 esz eb u v h n κ)
 (fun esz eb u8 zero x c cf ε h n κ=>ε x fun u=>ε c fun v=>Na esz eb u8 zero u v h n κ)
 (fun esz x y cf ε h n κ=>ε x fun u=>ε y fun v=>Jb esz u v h fun v h=>κ v h n)
 (fun x y z cf ε h n κ=>ε x fun u=>ε y fun v=>ε z fun w=>TF u v w fun v=>κ v h n)
 (fun x cf ε h n κ=>ε x fun v=>O1 v fun v=>κ v h n)
 (fun u8 zero x cf ε h n κ=>ε x fun v=>Tx u8 zero v h fun h=>κ (.tup []) h n)
 (fun why cf ε h n κ=>.fail "")
 o
section
variable {cf:CF} {cf2:FZ} {ε:Ib} {t:Regs} {h:Heap} {n:K4} {κ:KV}
theorem FF {l:List Opd} {κ:List V->R} (hh:∀ x∈l,∀ κ,ε x κ=κ (ev x t)):Fj ε l κ=κ (l.map (ev · t)):=by
 induction l generalizing κ with
 | nil=>rfl
 | cons o l ih =>
  show ε o (fun v=>Fj ε l fun vs=>κ (v::vs))=_
  rw [hh o (List.mem_cons_self ..),ih fun x hx=>hh x (List.mem_cons_of_mem _ hx)]; rfl
theorem Fv {o:Option Opd} {κ:Option V->R} (hh:∀ x∈o.toList,∀ κ,ε x κ=κ (ev x t)):FD ε o κ=κ (o.map (ev · t)):=by
 cases o with
 | none=>rfl
 | some x=>exact hh x (by simp) _
theorem NZ {l:List Part}:∀ {z:List V} {κ:List V->R},(∀ p∈l,∀ κ,ε p.x κ=κ (ev p.x t))->KB ε l z κ=D8 l t z κ:=by
 induction l with
 | nil=>intro z κ _; rfl
 | cons p l ih =>
  intro z κ hh
  obtain ⟨off,size,x⟩:=p
  have e1:KB ε (⟨off,size,x⟩::l) z κ=ε x fun v=>Iv off size v z fun z=>KB ε l z κ:=rfl
  have e2:D8 (⟨off,size,x⟩::l) t z κ=Bn off size (ev x t) z fun z=>D8 l t z κ:=AS x t _
  have e3:ε x (fun v=>Iv off size v z fun z=>KB ε l z κ)=_:=hh ⟨off,size,x⟩ (by simp) _
  rw [e1,e2,e3,PM]
  congr 1; funext z
  exact ih fun p hp=>hh p (by simp [hp])
theorem Pe {o:Option Opd} {d:Nat} {κ:Nat->R}:Cp o t d κ=Fw (o.map (ev · t)) d κ:=by
 cases o with
 | none=>rfl
 | some x=>exact AS x t _
theorem GV {k:AK} (hh:∀ x∈k.opds,∀ κ,ε x κ=κ (ev x t)) (hcf:∀ f,cf2 (BC f)=cf f):FQ k cf2 ε h n κ=H6 k cf t h n κ:=by
 cases k
 case build z ps=>exact NZ fun p hp=>hh p.x (List.mem_map.2 ⟨p,hp,rfl⟩)
 case bslice u8 len esz z ps =>
  have e1:FQ (.bslice u8 len esz z ps) cf2 ε h n κ=KB ε ps z fun l=>B4 u8 len esz l h n κ:=rfl
  rw [e1,NZ fun p hp=>hh p.x (List.mem_map.2 ⟨p,hp,rfl⟩)]
  simp only [B4,HX]; rfl
 case mkfn f l =>
  show Fj ε l (fun l=>κ (.fn f l) h n)=O9 l t fun l=>κ (.fn f l) h n
  rw [FF (l:=l) (t:=t) hh,EZ]
 case call f l =>
  show Fj ε l (fun l=>A6 (cf2 (BC f) l h n) κ)=O9 l t fun l=>A6 (cf f l h n) κ
  rw [FF (l:=l) (t:=t) hh,EZ,hcf]
 case calld x l =>
  have h1:∀ κ,ε x κ=κ (ev x t):=hh x (by simp [AK.opds])
  have h2:∀ y∈l,∀ κ,ε y κ=κ (ev y t):=fun y hy=>hh y (by simp [AK.opds,hy])
  show ε x (fun v=>Fj ε l fun l=>DB cf2 v l h n κ)=El x l cf t h n κ
  rw [h1,FF h2]
  simp only [El,AS,EZ,DB,hcf]; rfl
 case slS x lo hi =>
  have h1:∀ κ,ε x κ=κ (ev x t):=hh x (by simp [AK.opds])
  have h2:∀ y∈lo.toList,∀ κ,ε y κ=κ (ev y t):=fun y hy=>hh y (by simp [AK.opds]; simp at hy; simp [hy])
  have h3:∀ y∈hi.toList,∀ κ,ε y κ=κ (ev y t):=fun y hy=>hh y (by simp [AK.opds]; simp at hy; simp [hy])
  show ε x (fun v=>FD ε lo fun a=>FD ε hi fun b=>C0 v a b fun v=>κ v h n)=I2 x lo hi cf t h n κ
  rw [h1,Fv h2,Fv h3]
  simp only [I2,AS,Pe]
  cases hi <;> rfl
 case slL e x lo hi =>
  have h1:∀ κ,ε x κ=κ (ev x t):=hh x (by simp [AK.opds])
  have h2:∀ y∈lo.toList,∀ κ,ε y κ=κ (ev y t):=fun y hy=>hh y (by simp [AK.opds]; simp at hy; simp [hy])
  have h3:∀ y∈hi.toList,∀ κ,ε y κ=κ (ev y t):=fun y hy=>hh y (by simp [AK.opds]; simp at hy; simp [hy])
  show ε x (fun v=>FD ε lo fun a=>FD ε hi fun b=>Bz e v a b fun v=>κ v h n)=Ie e x lo hi cf t h n κ
  rw [h1,Fv h2,Fv h3]
  simp only [Ie,AS,Pe]
  cases hi <;> rfl
 case slA m e x lo hi =>
  have h1:∀ κ,ε x κ=κ (ev x t):=hh x (by simp [AK.opds])
  have h2:∀ y∈lo.toList,∀ κ,ε y κ=κ (ev y t):=fun y hy=>hh y (by simp [AK.opds]; simp at hy; simp [hy])
  have h3:∀ y∈hi.toList,∀ κ,ε y κ=κ (ev y t):=fun y hy=>hh y (by simp [AK.opds]; simp at hy; simp [hy])
  show ε x (fun v=>FD ε lo fun a=>FD ε hi fun b=>Dw m e v a b h fun v=>κ v h n)=Io m e x lo hi cf t h n κ
  rw [h1,Fv h2,Fv h3]
  simp only [Io,AS,Pe,Dw,GA]
 case pick c a b =>
  have h1:∀ κ,ε c κ=κ (ev c t):=hh c (by simp [AK.opds])
  have h2:∀ κ,ε a κ=κ (ev a t):=hh a (by simp [AK.opds])
  have h3:∀ κ,ε b κ=κ (ev b t):=hh b (by simp [AK.opds])
  show ε c (fun q=>ε a fun x=>ε b fun y=>Ak q x y fun v=>κ v h n)=HD c a b cf t h n κ
  rw [h1,h2,h3,Tw]
  simp only [HD,AS]
 case b2s x =>
  have h1:∀ κ,ε x κ=κ (ev x t):=hh x (by simp [AK.opds])
  show ε x (fun v=>Df v h fun v=>κ v h n)=J7 x cf t h n κ
  rw [h1,T9]
  simp only [J7,AS]
 case bin op x y =>
  have h1:∀ κ,ε x κ=κ (ev x t):=hh x (by simp [AK.opds])
  have h2:∀ κ,ε y κ=κ (ev y t):=hh y (by simp [AK.opds])
  show ε x (fun u=>ε y fun v=>Va op u v fun v=>κ v h n)=KN op x y cf t h n κ
  rw [h1,h2,TY]
  simp only [KN,AS]
 all_goals
  simp only [AK.opds,List.mem_cons,List.not_mem_nil,or_false,forall_eq_or_imp,forall_eq] at hh
  simp only [FQ,H6,AH,AP,Aa,Av,Su,AN,B4,P9,Fs,BU,HL,BE,ET,Ji,QN,B3,Na,Jb,Qa,HX,GA,Kz,IH,Pw,Uh,OX,Iu,S2,Mu,Rq,DY,Ri,MH,Mi,Mm,M7,J7,HQ,LN,MD,Ih,FR,LV,LL,M3,Lp,Ll,LH,S1,S3,MJ,Lk,LC,MK,Lm,ME,Mw,Lj,IP,Lw,IU,Mq,MM,Tx,R1,AS,hh]
  try rfl
end
end Go.Ev

namespace Go.Ev
set_option linter.unusedVariables false
structure SL where
 a:O8
 b:O4
def S.get (s:SL) (t:S):V:=SQ.sel s.b (S.sel s.a t)
def S.put (s:SL) (t:S) (v:V):S:=S.setS s.a t (SQ.setS s.b (S.sel s.a t) v)
theorem S.get_put_same (s:SL) (t:S) (v:V):S.get s (S.put s t v)=v:=by
 simp only [S.get,S.put,S.sel_setS_same,SQ.sel_setS_same]
theorem S.get_put_ne {s s':SL} (t:S) (v:V) (h:s≠s'):S.get s' (S.put s t v)=S.get s' t:=by
 obtain ⟨a,b⟩:=s
 obtain ⟨a',b'⟩:=s'
 simp only [S.get,S.put]
 by_cases ha:a=a'
 ·subst ha
  rw [S.sel_setS_same]
  by_cases hb:b=b'
  ·subst hb; exact absurd rfl h
  ·rw [SQ.sel_setS_ne _ _ hb]
 ·rw [S.sel_setS_ne _ _ ha]
abbrev Ud (b:O4) (κ:V->R) (x:SQ):R:=@SQ.rec (fun _=>R) (fun d0 d1 d2 d3=>@O4.rec (fun _=>R) (κ d0) (κ d1) (κ d2) (κ d3) b) x
abbrev TU (p:SL) (t:S) (κ:V->R):R:=@SL.rec (fun _=>R) (fun a b=>@S.rec (fun _=>R) (fun c0 c1 c2 c3 c4 c5 c6 c7=>@O8.rec (fun _=>R) (Ud b κ c0) (Ud b κ c1) (Ud b κ c2) (Ud b κ c3) (Ud b κ c4) (Ud b κ c5) (Ud b κ c6) (Ud b κ c7) a) t) p
abbrev TM (b:O4) (v:V) (x:SQ) (k:SQ->R):R:=@SQ.rec (fun _=>R) (fun d0 d1 d2 d3=>@O4.rec (fun _=>R) (k (.mk v d1 d2 d3)) (k (.mk d0 v d2 d3)) (k (.mk d0 d1 v d3)) (k (.mk d0 d1 d2 v)) b) x
abbrev UL (p:SL) (t:S) (v:V) (k:S->R):R:=@SL.rec (fun _=>R) (fun a b=>@S.rec (fun _=>R) (fun c0 c1 c2 c3 c4 c5 c6 c7=>@O8.rec (fun _=>R) (TM b v c0 fun x=>k (.mk x c1 c2 c3 c4 c5 c6 c7)) (TM b v c1 fun x=>k (.mk c0 x c2 c3 c4 c5 c6 c7)) (TM b v c2 fun x=>k (.mk c0 c1 x c3 c4 c5 c6 c7)) (TM b v c3 fun x=>k (.mk c0 c1 c2 x c4 c5 c6 c7)) (TM b v c4 fun x=>k (.mk c0 c1 c2 c3 x c5 c6 c7)) (TM b v c5 fun x=>k (.mk c0 c1 c2 c3 c4 x c6 c7)) (TM b v c6 fun x=>k (.mk c0 c1 c2 c3 c4 c5 x c7)) (TM b v c7 fun x=>k (.mk c0 c1 c2 c3 c4 c5 c6 x)) a) t) p
theorem V8 (b:O4) (κ:V->R) (x:SQ):Ud b κ x=κ (SQ.sel b x):=by cases x; cases b <;> rfl
theorem UK (p:SL) (t:S) (κ:V->R):TU p t κ=κ (S.get p t):=by
 obtain ⟨a,b⟩:=p
 cases t
 cases a <;> exact V8 _ _ _
theorem Vh (b:O4) (v:V) (x:SQ) (k:SQ->R):TM b v x k=k (SQ.setS b x v):=by cases x; cases b <;> rfl
theorem Uz (p:SL) (t:S) (v:V) (k:S->R):UL p t v k=k (S.put p t v):=by
 obtain ⟨a,b⟩:=p
 have e1:UL ⟨a,b⟩ t v k=TM b v (S.sel a t) fun x=>k (S.setS a t x):=by cases t; cases a <;> rfl
 rw [e1,Vh]; rfl
abbrev SM:=List (K2×SL)
abbrev HK (p:K2) (sm:SM) (κ:SL->R) (e:R):R :=
 @List.rec (K2×SL) (fun _=>R) e (fun x _ ih=>@Prod.rec K2 SL (fun _=>R) (fun q s=>UQ (K2.beq q p) (κ s) ih) x) sm
def BJ (p:K2):SM->Option SL
 | []=>none
 | x::l=>br (K2.beq x.1 p) (some x.2) (BJ p l)
theorem Lt (p:K2) (sm:SM) (κ:SL->R) (e:R):HK p sm κ e=match BJ p sm with | some s=>κ s | none=>e:=by
 induction sm with
 | nil=>rfl
 | cons x l ih =>
  obtain ⟨q,s⟩:=x
  have e1:HK p ((q,s)::l) κ e=UQ (K2.beq q p) (κ s) (HK p l κ e):=rfl
  rw [e1,ih]
  simp only [BJ]
  cases K2.beq q p <;> rfl
def O8.beq (a b:O8):Bool:=Nat.beq (@O8.rec (fun _=>Nat) 0 1 2 3 4 5 6 7 a) (@O8.rec (fun _=>Nat) 0 1 2 3 4 5 6 7 b)
def O4.beq (a b:O4):Bool:=Nat.beq (@O4.rec (fun _=>Nat) 0 1 2 3 a) (@O4.rec (fun _=>Nat) 0 1 2 3 b)
theorem O8.beq_self (a:O8):a.beq a=true:=by cases a <;> rfl
theorem O4.beq_self (a:O4):a.beq a=true:=by cases a <;> rfl
def SL.beq (s s':SL):Bool:=and (s.a.beq s'.a) (s.b.beq s'.b)
def Ol:SM->Bool
 | []=>true
 | x::l=>(l.all fun y=>!SL.beq x.2 y.2)&&Ol l
theorem GW {p:K2} {s:SL}:∀ {sm:SM},BJ p sm=some s->(p,s)∈sm
 | [],h=>by cases h
 | x::l,h=>by
  simp only [BJ] at h
  cases hb:K2.beq x.1 p with
  | true =>
   rw [hb] at h
   have h:some x.2=some s:=h
   cases h
   rw [←K2.beq_iff.1 hb]
   exact List.mem_cons_self ..
  | false=>rw [hb] at h; exact List.mem_cons_of_mem _ (GW h)
theorem Kv:∀ {sm:SM},Ol sm=true->∀ {p q:K2} {s:SL},BJ p sm=some s->BJ q sm=some s->p=q
 | [],_,p,q,s,h,_=>by cases h
 | x::l,hok,p,q,s,hp,hq=>by
  simp only [Ol,Bool.and_eq_true] at hok
  have no:∀ r,(r,x.2) ∉ l:=fun r hr=>by
   have:=List.all_eq_true.1 hok.1 _ hr
   simp [SL.beq,O8.beq_self,O4.beq_self] at this
  simp only [BJ] at hp hq
  cases hbp:K2.beq x.1 p with
  | true =>
   rw [hbp] at hp
   have hp:some x.2=some s:=hp
   cases hp
   cases hbq:K2.beq x.1 q with
   | true=>rw [←K2.beq_iff.1 hbp,←K2.beq_iff.1 hbq]
   | false=>rw [hbq] at hq; exact absurd (GW hq) (no _)
  | false =>
   rw [hbp] at hp
   cases hbq:K2.beq x.1 q with
   | true =>
    rw [hbq] at hq
    have hq:some x.2=some s:=hq
    cases hq
    exact absurd (GW hp) (no _)
   | false=>rw [hbq] at hq; exact Kv hok.2 hp hq
abbrev Ren:=List (K2×V)
abbrev Tt (p:K2) (env:Ren) (κ:V->R) (e:R):R :=
 @List.rec (K2×V) (fun _=>R) e (fun x _ ih=>@Prod.rec K2 V (fun _=>R) (fun q v=>UQ (K2.beq q p) (κ v) ih) x) env
abbrev Bm (sm:SM) (env:Ren) (t:S):Ib:=fun o κ=>@Opd.rec (fun _=>R) (fun p=>Tt p env κ (HK p sm (fun s=>TU s t κ) (.fail ""))) (fun v=>κ v) o
abbrev CZ (sm:SM) (d:Option K2) (t:S) (v:V) (κ:S->R):R :=
 @Option.rec K2 (fun _=>R) (κ t) (fun p=>HK p sm (fun s=>UL s t v κ) (κ t)) d
abbrev BL (d:Option K2) (v:V) (env:Ren):Ren:=@Option.rec K2 (fun _=>Ren) env (fun p=>(p,v)::env) d
def Nw (w:Bool) (v:V) (yes no:R):R :=
 @V.rec (fun _=>R) (fun _=>Unit) (fun _ _=>no) (fun b=>br (Bool.rec (Bool.rec true false b) b w) yes no) (fun _ _=>no) (fun _ _ _ _ _ _=>no) (fun _ _=>no) (fun _ _=>no) (fun _=>no) (fun _=>no) (fun _ _ _=>no) (fun _ _=>no) (fun o=>.fail "") () (fun _ _ _ _=>()) v
def gd (w:Bool) (v:V) (F:KV->R) (κ:KV) (h:Heap) (n:K4):R:=Nw w v (F κ) (κ Cf h n)
def Cz (w:Bool) (v:V) (F:(V->R)->R) (κ:V->R):R:=Nw w v (F κ) (κ Cf)
def Xl (w:Bool) (v:V) (F:R->R) (κ:R):R:=Nw w v (F κ) κ
abbrev HH (g:Option (K2×Bool)) (ε:Ib) (F:KV->R) (κ:KV) (h:Heap) (n:K4):R :=
 @Option.rec (K2×Bool) (fun _=>R) (F κ) (fun p=>@Prod.rec K2 Bool (fun _=>R) (fun r w=>ε (.t r) fun v=>gd w v F κ h n) p) g
abbrev JZ (g:Option (K2×Bool)) (ε:Ib) (F:(V->R)->R) (κ:V->R):R :=
 @Option.rec (K2×Bool) (fun _=>R) (F κ) (fun p=>@Prod.rec K2 Bool (fun _=>R) (fun r w=>ε (.t r) fun v=>Cz w v F κ) p) g
abbrev Pj (g:Option (K2×Bool)) (ε:Ib) (F:R->R) (κ:R):R :=
 @Option.rec (K2×Bool) (fun _=>R) (F κ) (fun p=>@Prod.rec K2 Bool (fun _=>R) (fun r w=>ε (.t r) fun v=>Xl w v F κ) p) g
abbrev CP (sm:SM) (cf:FZ) (l:List AOp):Ren->S->Heap->K4->(Ren->S->Heap->K4->R)->R :=
 @List.rec AOp (fun _=>Ren->S->Heap->K4->(Ren->S->Heap->K4->R)->R) (fun env t h n κ=>κ env t h n)
  (fun o _ ih env t h n κ=>@AOp.rec (fun _=>R) (fun d g k=>HH g (Bm sm env t) (FQ k cf (Bm sm env t) h n) (fun v h n=>CZ sm d t v fun t=>ih (BL d v env) t h n κ) h n) o) l
def Ac (r:R) (κ:V->R):R:=@R.rec (fun _=>R) (Fp "") (fun v h n=>κ v) (fun w=>.fail w) (Fp "") r
abbrev Fh (sm:SM) (cf:FZ) (b:K4) (i:Item) (env:Ren) (t:S) (h0 h1:Heap) (n:K4) (κ:Ren->S->Heap->Heap->K4->R):R :=
 @Item.rec (fun _=>R)
  (fun _ o=>@AOp.rec (fun _=>R) (fun d g k=>JZ g (Bm sm env t) (Ac (FQ k cf (Bm sm env t) h0 n JE)) (fun v=>CZ sm d t v fun t=>κ (BL d v env) t h0 h1 n)) o)
  (fun _ o=>@AOp.rec (fun _=>R) (fun d g k=>HH g (Bm sm env t) (AZ (FQ k cf (Bm sm env t) h1 n R.rv)) (fun v h n=>CZ sm d t v fun t=>κ (BL d v env) t h h n) h1 n) o)
  (fun _ j o=>@AOp.rec (fun _=>R) (fun d g k=>HH g (Bm sm env t) (fun κ=>b.at j fun r=>Bk r h1 fun x=>Hn x (AZ (FQ k cf (Bm sm env t) h1 r R.rv) κ)) (fun v h _=>CZ sm d t v fun t=>κ (BL d v env) t h0 h n) h1 n) o)
  (fun _ o=>@AOp.rec (fun _=>R) (fun d g k=>Pj g (Bm sm env t) (fun e=>Sg d fun p=>Ac (FQ k cf (Bm sm env t) h0 n JE) fun v=>Bm sm env t (.t p) fun x=>AD x v e) (κ env t h0 h1 n)) o)
  (fun j=>b.at j fun r=>Bk r h0 fun x=>Hn x (κ env t h0 h1 n))
  (fun _ j o=>@AOp.rec (fun _=>R) (fun d g k=>JZ g (Bm sm env t) (fun κ=>b.at j fun r=>Bk r h1 fun x=>VR x fun ob=>Bx r AT (some ob) fun hx=>Ac (FQ k cf (Bm sm env t) hx n JE) κ) (fun v=>CZ sm d t v fun t=>κ (BL d v env) t h0 h1 n)) o) i
abbrev Di (sm:SM) (cf:FZ) (b:K4) (l:List Item):Ren->S->Heap->Heap->K4->(Ren->S->Heap->Heap->K4->R)->R :=
 @List.rec Item (fun _=>Ren->S->Heap->Heap->K4->(Ren->S->Heap->Heap->K4->R)->R) (fun env t h0 h1 n κ=>κ env t h0 h1 n)
  (fun i _ ih env t h0 h1 n κ=>Fh sm cf b i env t h0 h1 n fun env t h0 h1 n=>ih env t h0 h1 n κ) l
def Gl (sm:SM) (p:K2):Bool:=@Option.rec SL (fun _=>Bool) false (fun _=>true) (BJ p sm)
def Jn (sm:SM) (dom:List K2) (p:K2):Bool:=U1 p dom || Gl sm p
def Pf (sm:SM) (dom:List K2) (o:AOp):Bool:=o.slots.all (Jn sm dom)
def FT (d:Option K2) (dom:List K2):List K2:=match d with | none=>dom | some p=>p::dom
def G8 (sm:SM):List AOp->List K2->Bool
 | [],_=>true
 | o::l,dom=>Pf sm dom o&&G8 sm l (FT o.dst dom)
def CI:List AOp->List K2->List K2
 | [],dom=>dom
 | o::l,dom=>CI l (FT o.dst dom)
def Item.op:Item->Option AOp
 | .rd _ o=>some o
 | .ef _ o=>some o
 | .al _ _ o=>some o
 | .rn _ _ o=>some o
 | _=>none
def PO (sm:SM) (dom:List K2):Item->Bool
 | .rd _ o=>Pf sm dom o
 | .ef _ o=>Pf sm dom o
 | .al _ _ o=>Pf sm dom o
 | .rn _ _ o=>Pf sm dom o
 | .ck _ o=>Pf sm dom o&&match o.dst with | some p=>Jn sm dom p | none=>true
 | .no _=>true
def Nm (i:Item) (dom:List K2):List K2:=match i.op with | some o=>FT o.dst dom | none=>dom
def HO (sm:SM):List Item->List K2->Bool
 | [],_=>true
 | i::l,dom=>PO sm dom i&&HO sm l (Nm i dom)
def I8:List Item->List K2->List K2
 | [],dom=>dom
 | i::l,dom=>I8 l (Nm i dom)
section
variable {P:Program} {ρ:Env} {B N:Nat} {cf:CF} {cf2:FZ} {sm:SM}
def EX (p:K2):Ren->Option V
 | []=>none
 | x::l=>br (K2.beq x.1 p) (some x.2) (EX p l)
theorem Dm {p:K2} {v:V} {env:Ren}:EX p ((p,v)::env)=some v:=by
 simp only [EX,K2.beq_iff.2 rfl]; rfl
theorem FI {p q:K2} {v:V} {env:Ren} (h:p≠q):EX q ((p,v)::env)=EX q env:=by
 have:K2.beq p q=false:=by
  cases hb:K2.beq p q with
  | false=>rfl
  | true=>exact absurd (K2.beq_iff.1 hb) h
 simp only [EX,this]; rfl
theorem U9 (p:K2) (env:Ren) (κ:V->R) (e:R):Tt p env κ e=match EX p env with | some v=>κ v | none=>e:=by
 induction env with
 | nil=>rfl
 | cons x l ih =>
  obtain ⟨q,v⟩:=x
  have e1:Tt p ((q,v)::l) κ e=UQ (K2.beq q p) (κ v) (Tt p l κ e):=rfl
  rw [e1,ih]
  by_cases h:q=p
  ·subst h; rw [Dm,K2.beq_iff.2 rfl]
  ·rw [FI h]
   have:K2.beq q p=false:=by
    cases hb:K2.beq q p with
    | false=>rfl
    | true=>exact absurd (K2.beq_iff.1 hb) h
   rw [this]
structure RI (sm:SM) (dom:List K2) (env:Ren) (t:Regs) (t':S):Prop where
 inj:∀ {p q s},BJ p sm=some s->BJ q sm=some s->p=q
 told:∀ p v,EX p env=some v->Bi p t=v
 dom:∀ p,p∈dom->∃ v,EX p env=some v
 keep:∀ p s,BJ p sm=some s->S.get s t'=Bi p t
theorem Q5 {p:K2} (h:Gl sm p=true):∃ s,BJ p sm=some s:=by
 unfold Gl at h
 cases hf:BJ p sm with
 | none=>rw [hf] at h; cases h
 | some s=>exact ⟨s,rfl⟩
theorem RI.tell {dom:List K2} {env:Ren} {t:Regs} {t':S} (r:RI sm dom env t t') {p:K2} (h:Jn sm dom p=true) (κ:V->R):Bm sm env t' (.t p) κ=κ (Bi p t):=by
 have e1:Bm sm env t' (.t p) κ=Tt p env κ (HK p sm (fun s=>TU s t' κ) (.fail "")):=rfl
 rw [e1,U9,Lt]
 cases hf:EX p env with
 | some v=>rw [r.told p v hf]
 | none =>
  have hk:Gl sm p=true:=by
   unfold Jn at h
   rw [Bool.or_eq_true] at h
   rcases h with h | h
   ·obtain ⟨v,hv⟩:=r.dom p (OR.1 h); rw [hf] at hv; cases hv
   ·exact h
  obtain ⟨s,hs⟩:=Q5 hk
  rw [hs]
  show TU s t' κ=_
  rw [UK,r.keep p s hs]
theorem RI.tells {dom:List K2} {env:Ren} {t:Regs} {t':S} (r:RI sm dom env t t') {o:AOp} (h:Pf sm dom o=true):(∀ x∈o.k.opds,∀ κ,Bm sm env t' x κ=κ (ev x t))∧(∀ p w,o.g=some (p,w)->∀ κ,Bm sm env t' (.t p) κ=κ (Bi p t)):=by
 have h:=List.all_eq_true.1 h
 refine ⟨fun x hx κ=>?_,fun p w hg κ=>r.tell (h p ?_) κ⟩
 ·cases x with
  | c v=>rfl
  | t p=>exact r.tell (h p (List.mem_append_left _ (List.mem_filterMap.2 ⟨.t p,hx,rfl⟩))) κ
 ·refine List.mem_append_right _ ?_
  rw [hg]; simp
theorem RI.start (hi:∀ {p q s},BJ p sm=some s->BJ q sm=some s->p=q) {t:Regs} {t':S} (h:∀ p s,BJ p sm=some s->S.get s t'=Bi p t):RI sm [] [] t t' :=
 ⟨hi,fun p v h=>(by simp [EX] at h),fun p h=>(by simp at h),h⟩
theorem RI.put {dom:List K2} {env:Ren} {t:Regs} {t':S} (r:RI sm dom env t t') (d:Option K2) (v:V) (κ:S->R) :
  ∃ t1',CZ sm d t' v κ=κ t1'∧RI sm (FT d dom) (BL d v env) (Dd d t v) t1':=by
 cases d with
 | none=>exact ⟨t',rfl,r⟩
 | some p =>
  have e1:CZ sm (some p) t' v κ=HK p sm (fun s=>UL s t' v κ) (κ t'):=rfl
  have e2:BL (some p) v env=(p,v)::env:=rfl
  have told:∀ q u,EX q ((p,v)::env)=some u->Bi q (Dd (some p) t v)=u:=fun q u hq=>by
   by_cases e:p=q
   ·subst e; rw [Dm] at hq; cases hq; exact Be _ _ _
   ·rw [FI e] at hq
    rw [show Bi q (Dd (some p) t v)=Bi q t from Bv _ _ e]; exact r.told q u hq
  have dm:∀ q,q∈FT (some p) dom->∃ u,EX q ((p,v)::env)=some u:=fun q hq=>by
   by_cases e:p=q
   ·subst e; exact ⟨v,Dm⟩
   ·rw [FI e]
    rcases List.mem_cons.1 hq with h | h
    ·exact absurd h.symm e
    ·exact r.dom q h
  rw [e1,Lt]
  cases hk:BJ p sm with
  | some s =>
   refine ⟨S.put s t' v,Uz _ _ _ _,?_⟩
   rw [e2]
   refine ⟨r.inj,told,dm,fun q s' hq=>?_⟩
   show S.get s' (S.put s t' v)=Bi q (DH p t v)
   by_cases e:p=q
   ·subst e
    rw [hk] at hq; cases hq
    rw [Be,S.get_put_same]
   ·have hs:s≠s':=fun hs=>e (r.inj (hs ▸ hk) hq)
    rw [Bv _ _ e,S.get_put_ne _ _ hs]; exact r.keep q s' hq
  | none =>
   refine ⟨t',rfl,?_⟩
   rw [e2]
   refine ⟨r.inj,told,dm,fun q s' hq=>?_⟩
   have e:p≠q:=fun e=>by subst e; rw [hk] at hq; cases hq
   show S.get s' t'=Bi q (DH p t v)
   rw [Bv _ _ e]; exact r.keep q s' hq
theorem IK {p:K2} {w:Bool} {t:Regs} {yes no:R}:Nw w (Bi p t) yes no=CK (some (p,w)) t yes no:=(CA p t _).symm
theorem ID {g:Option (K2×Bool)} {ε:Ib} {t:Regs} {F:KV->R} {κ:KV} {h:Heap} {n:K4} (hh:∀ p w,g=some (p,w)->∀ κ,ε (.t p) κ=κ (Bi p t)):HH g ε F κ h n=CK g t (F κ) (κ Cf h n):=by
 cases g with
 | none=>rfl
 | some pw =>
  obtain ⟨p,w⟩:=pw
  exact (hh p w rfl _).trans IK
theorem Mj {g:Option (K2×Bool)} {ε:Ib} {t:Regs} {F:(V->R)->R} {κ:V->R} (hh:∀ p w,g=some (p,w)->∀ κ,ε (.t p) κ=κ (Bi p t)):JZ g ε F κ=CK g t (F κ) (κ Cf):=by
 cases g with
 | none=>rfl
 | some pw =>
  obtain ⟨p,w⟩:=pw
  exact (hh p w rfl _).trans IK
theorem S4 {g:Option (K2×Bool)} {ε:Ib} {t:Regs} {F:R->R} {κ:R} (hh:∀ p w,g=some (p,w)->∀ κ,ε (.t p) κ=κ (Bi p t)):Pj g ε F κ=CK g t (F κ) κ:=by
 cases g with
 | none=>rfl
 | some pw =>
  obtain ⟨p,w⟩:=pw
  exact (hh p w rfl _).trans IK
def NI (cf:CF) (o:AOp) (t:Regs) (h:Heap) (n:K4) (κ:KV):R:=CK o.g t (H6 o.k cf t h n κ) (κ Cf h n)
theorem PL (hρ:Bq ρ) (hcf:DU P ρ B cf) {ops:Array Oper} {o:Oper} {ao:AOp} (hc:Jc P N ops o=some ao) {t:Regs} {h:Heap} {n:K4} {κ:KV} (hg:(NI cf ao t h n κ).good) :
  ∃ v h1 n1,NI cf ao t h n κ=κ v h1 n1 ∧ ∀ φ a w,TR ρ N φ t a->Gam ρ B h n φ w->∀ (K:Act->World->Prop) (Q:Exit->Act->World->Prop),
   (∀ φ' a' w',Fr h h1 φ φ' n n1 w w'->Gam ρ B h1 n1 φ' w'->TR ρ N φ' (Dd ao.dst t v) a'->K a' w')->C4 P ops o a w K Q:=by
 obtain ⟨hd,hgd,hk⟩:=BG hc
 rcases Gu (ρ:=ρ) (o:=o) (show R.good (CK _ _ _ _) from hg) hgd with ⟨e1,hw⟩ | ⟨e1,hw⟩
 ·have e1:NI cf ao t h n κ=_:=e1
  rw [e1] at hg
  have hs:CB P ρ B N o (H6 ao.k cf t h n) t h n:=by
   rcases hk with hk | ⟨why,hk⟩
   ·exact JU hρ hcf hk
   ·rw [hk]; exact RE (cf:=cf) (why:=why)
  obtain ⟨v,h1,n1,e2,hstep⟩:=hs _ hg
  refine ⟨v,h1,n1,e1.trans e2,fun φ a w hT g K Q hK=>?_⟩
  unfold C4
  rw [if_pos (hw φ a hT)]
  exact hstep φ a w hT g K Q fun φ' x w' f1 g1 r1=>hK φ' _ w' f1 g1 ((hT.mono f1.ext).puts hd r1)
 ·have e1:NI cf ao t h n κ=_:=e1
  refine ⟨Cf,h,n,e1,fun φ a w hT g K Q hK=>?_⟩
  unfold C4
  rw [if_neg (by rw [hw φ a hT]; simp)]
  exact hK φ _ w (Fr.refl h φ n w) g (hT.puts hd DN)
def F6 (P:Program) (ops:Array Oper) (Q:Exit->Act->World->Prop) (K:Act->World->Prop):List Oper->Act->World->Prop
 | [],a,w=>K a w
 | o::rest,a,w=>if Region.wanted o (yielded ops a.tmps)=true then o.wp P a w (F6 P ops Q K rest) Q else F6 P ops Q K rest (a.put o.dst undef) w
theorem FK {ops:Array Oper} {Q:Exit->Act->World->Prop} {r:List Oper}:∀ {l:List Oper} {a:Act} {w:World},F6 P ops Q (wpList P ops Q r) l a w->wpList P ops Q (l++r) a w
 | [],_,_,h=>h
 | o::l,a,w,h=>by
  show wpList P ops Q (o::(l++r)) a w
  simp only [wpList]
  unfold F6 at h
  split
  ·rw [if_pos (by assumption)] at h
   refine .inl ?_
   exact Oper.wp_mono (fun a w h=>FK h) h
  ·rw [if_neg (by assumption)] at h; exact FK h
theorem Dp (hρ:Bq ρ) (hcf:DU P ρ B cf) (h2:∀ f,cf2 (BC f)=cf f) {ops:Array Oper}:∀ {l:List Oper} {al:List AOp} {dom:List K2} {env:Ren} {t:Regs} {t':S} {h:Heap} {n:K4} {κ:Ren->S->Heap->K4->R},
  Gi P N ops l=some al->G8 sm al dom=true->RI sm dom env t t'->(CP sm cf2 al env t' h n κ).good →
  ∃ env1 t1 t1' h1 n1,CP sm cf2 al env t' h n κ=κ env1 t1' h1 n1∧RI sm (CI al dom) env1 t1 t1' ∧ ∀ φ a w,TR ρ N φ t a->Gam ρ B h n φ w->∀ (Q:Exit->Act->World->Prop) (K:Act->World->Prop),
   (∀ φ' a' w',Fr h h1 φ φ' n n1 w w'->Gam ρ B h1 n1 φ' w'->TR ρ N φ' t1 a'->K a' w')->F6 P ops Q K l a w
 | [],al,dom,env,t,t',h,n,κ,hc,hok,ri,hg=>by
  simp only [Gi,Option.some.injEq] at hc; subst hc
  exact ⟨env,t,t',h,n,rfl,ri,fun φ a w hT g Q K hQ=>hQ φ a w (Fr.refl h φ n w) g hT⟩
 | o::l,al,dom,env,t,t',h,n,κ,hc,hok,ri,hg=>by
  simp only [Gi] at hc
  split at hc
  ·rename_i ao al' ho hl
   cases hc
   simp only [G8,Bool.and_eq_true] at hok
   have ht:=ri.tells hok.1
   have e0:CP sm cf2 (ao::al') env t' h n κ=HH ao.g (Bm sm env t') (FQ ao.k cf2 (Bm sm env t') h n) (fun v h n=>CZ sm ao.dst t' v fun t=>CP sm cf2 al' (BL ao.dst v env) t h n κ) h n:=by cases ao; rfl
   have e1:CP sm cf2 (ao::al') env t' h n κ=NI cf ao t h n (fun v h n=>CZ sm ao.dst t' v fun t=>CP sm cf2 al' (BL ao.dst v env) t h n κ):=by
    rw [e0,ID ht.2,GV ht.1 h2]; rfl
   rw [e1] at hg ⊢
   obtain ⟨v,h1,n1,e2,H1⟩:=PL (B:=B) hρ hcf ho hg
   rw [e2] at hg ⊢
   obtain ⟨t1',e3,ri1⟩:=ri.put ao.dst v (fun t=>CP sm cf2 al' (BL ao.dst v env) t h1 n1 κ)
   rw [e3] at hg ⊢
   obtain ⟨env2,t2,t2',hh2,n2,e4,ri2,H2⟩:=Dp hρ hcf h2 hl hok.2 ri1 hg
   refine ⟨env2,t2,t2',hh2,n2,e4,ri2,fun φ a w hT g Q K hQ=>?_⟩
   have:=H1 φ a w hT g (F6 P ops Q K l) Q fun φ' a' w' f1 g1 T1=>H2 φ' a' w' T1 g1 Q K fun φ2 a2 w2 f2 g2 T2=>hQ φ2 a2 w2 (Fr.trans f1 f2) g2 T2
   exact this
  ·cases hc
theorem PN (hρ:Bq ρ) (hcf:DU P ρ B cf) (h2:∀ f,cf2 (BC f)=cf f) {ops:Array Oper} {l:List Oper} {al:List AOp} {dom:List K2} {env:Ren} {t:Regs} {t':S} {h:Heap} {n:K4} {κ:Ren->S->Heap->K4->R}
  (hc:Gi P N ops l=some al) (hok:G8 sm al dom=true) (ri:RI sm dom env t t') (hg:(CP sm cf2 al env t' h n κ).good) :
  ∃ env1 t1 t1' h1 n1,CP sm cf2 al env t' h n κ=κ env1 t1' h1 n1∧RI sm (CI al dom) env1 t1 t1' ∧ ∀ φ a w,TR ρ N φ t a->Gam ρ B h n φ w->∀ (Q:Exit->Act->World->Prop),
   (∀ φ' a' w',Fr h h1 φ φ' n n1 w w'->Gam ρ B h1 n1 φ' w'->TR ρ N φ' t1 a'->Q .normal a' w')->wpList P ops Q l a w:=by
 obtain ⟨env1,t1,t1',h1,n1,e1,ri1,H⟩:=Dp hρ hcf h2 hc hok ri hg
 exact ⟨env1,t1,t1',h1,n1,e1,ri1,fun φ a w hT g Q hQ=>by have:=FK (r:=[]) (H φ a w hT g Q (wpList P ops Q []) hQ); rwa [List.append_nil] at this⟩
theorem K0 {r:R} {κ:V->R} (hg:(Ac r κ).good):∃ v h n,r = .rv v h n∧Ac r κ=κ v:=by
 cases r with
 | ok e t h n=>exact hg.elim
 | rv v h n=>exact ⟨v,h,n,rfl,rfl⟩
 | fail w=>exact hg.elim
 | both a b=>exact hg.elim
theorem Oi (h2:∀ f,cf2 (BC f)=cf f) {b:K4} {i:Item} {dom:List K2} {env:Ren} {s:St} {t':S} {κ:Ren->S->Heap->Heap->K4->R} (hok:PO sm dom i=true) (ri:RI sm dom env s.t t') (hg:(Fh sm cf2 b i env t' s.h0 s.h1 s.n κ).good) :
  ∃ s' env1 t1',Ia cf b i s s'∧RI sm (Nm i dom) env1 s'.t t1'∧Fh sm cf2 b i env t' s.h0 s.h1 s.n κ=κ env1 t1' s'.h0 s'.h1 s'.n:=by
 obtain ⟨t,h0,h1,n⟩:=s
 cases i with
 | rd i o =>
  have ht:=ri.tells hok
  have e0:Fh sm cf2 b (.rd i o) env t' h0 h1 n κ=JZ o.g (Bm sm env t') (Ac (FQ o.k cf2 (Bm sm env t') h0 n JE)) (fun v=>CZ sm o.dst t' v fun t=>κ (BL o.dst v env) t h0 h1 n):=by cases o; rfl
  simp only [e0] at hg ⊢
  rw [Mj ht.2,GV ht.1 h2] at hg ⊢
  rcases EA hg with hy | hn
  ·rw [hy] at hg
   obtain ⟨v,h,n',e1,e2⟩:=K0 hg
   obtain ⟨t1',e3,ri1⟩:=ri.put o.dst v (fun t=>κ (BL o.dst v env) t h0 h1 n)
   exact ⟨_,_,_,.inl ⟨hy,v,h,n',e1,rfl⟩,ri1,by rw [hy,e2,e3]⟩
  ·obtain ⟨t1',e3,ri1⟩:=ri.put o.dst Cf (fun t=>κ (BL o.dst Cf env) t h0 h1 n)
   exact ⟨_,_,_,.inr ⟨hn,rfl⟩,ri1,by rw [hn,e3]⟩
 | ef i o =>
  have ht:=ri.tells hok
  have e0:Fh sm cf2 b (.ef i o) env t' h0 h1 n κ=HH o.g (Bm sm env t') (AZ (FQ o.k cf2 (Bm sm env t') h1 n R.rv)) (fun v h n=>CZ sm o.dst t' v fun t=>κ (BL o.dst v env) t h h n) h1 n:=by cases o; rfl
  simp only [e0] at hg ⊢
  rw [ID ht.2,GV ht.1 h2] at hg ⊢
  rcases EA hg with hy | hn
  ·rw [hy] at hg
   obtain ⟨v,h,n',e1,e2⟩:=OJ hg
   obtain ⟨t1',e3,ri1⟩:=ri.put o.dst v (fun t=>κ (BL o.dst v env) t h h n')
   exact ⟨_,_,_,.inl ⟨hy,v,h,n',e1,rfl⟩,ri1,by rw [hy,e2,e3]⟩
  ·obtain ⟨t1',e3,ri1⟩:=ri.put o.dst Cf (fun t=>κ (BL o.dst Cf env) t h1 h1 n)
   exact ⟨_,_,_,.inr ⟨hn,rfl⟩,ri1,by rw [hn,e3]⟩
 | al i j o =>
  have ht:=ri.tells hok
  have e0:Fh sm cf2 b (.al i j o) env t' h0 h1 n κ=HH o.g (Bm sm env t') (fun κ=>Hn (AL (E1 b j) h1) (AZ (FQ o.k cf2 (Bm sm env t') h1 (E1 b j) R.rv) κ)) (fun v h _=>CZ sm o.dst t' v fun t=>κ (BL o.dst v env) t h0 h n) h1 n:=by
   have:∀ κ:KV,(b.at j fun r=>Bk r h1 fun x=>Hn x (AZ (FQ o.k cf2 (Bm sm env t') h1 r R.rv) κ))=Hn (AL (E1 b j) h1) (AZ (FQ o.k cf2 (Bm sm env t') h1 (E1 b j) R.rv) κ):=fun κ=>by
    rw [K4.at_eq,Bc]; rfl
   cases o
   simp only [←this]
  simp only [e0] at hg ⊢
  rw [ID ht.2,GV ht.1 h2] at hg ⊢
  rcases EA hg with hy | hn
  ·rw [hy] at hg
   obtain ⟨h3,e3⟩:=KR hg
   rw [e3] at hg
   obtain ⟨v,h,n',e1,e2⟩:=OJ hg
   obtain ⟨t1',e4,ri1⟩:=ri.put o.dst v (fun t=>κ (BL o.dst v env) t h0 h n)
   exact ⟨_,_,_,.inl ⟨hy,h3,v,h,n',e1,rfl⟩,ri1,by rw [hy,e3,e2,e4]⟩
  ·obtain ⟨t1',e3,ri1⟩:=ri.put o.dst Cf (fun t=>κ (BL o.dst Cf env) t h0 h1 n)
   exact ⟨_,_,_,.inr ⟨hn,rfl⟩,ri1,by rw [hn,e3]⟩
 | ck i o =>
  simp only [PO,Bool.and_eq_true] at hok
  have ht:=ri.tells hok.1
  have e0:Fh sm cf2 b (.ck i o) env t' h0 h1 n κ=Pj o.g (Bm sm env t') (fun e=>Sg o.dst fun p=>Ac (FQ o.k cf2 (Bm sm env t') h0 n JE) fun v=>Bm sm env t' (.t p) fun x=>AD x v e) (κ env t' h0 h1 n):=by cases o; rfl
  simp only [e0] at hg ⊢
  rw [S4 ht.2,GV ht.1 h2] at hg ⊢
  rcases EA hg with hy | hn
  ·rw [hy] at hg
   cases hd:o.dst with
   | none=>rw [hd] at hg; exact hg.elim
   | some p =>
    have hkn:Jn sm dom p=true:=by have:=hok.2; rw [hd] at this; exact this
    rw [hd] at hg
    have e5:(Sg (some p) fun p=>Ac (H6 o.k cf t h0 n JE) fun v=>Bm sm env t' (.t p) fun x=>AD x v (κ env t' h0 h1 n))=Ac (H6 o.k cf t h0 n JE) fun v=>AD (Bi p t) v (κ env t' h0 h1 n):=by
     show Ac _ (fun v=>Bm sm env t' (.t p) fun x=>AD x v (κ env t' h0 h1 n))=_
     congr 1; funext v
     exact ri.tell hkn _
    rw [e5] at hg
    obtain ⟨v,h,n',e1,e2⟩:=K0 hg
    rw [e2] at hg
    obtain ⟨e3,e4⟩:=DP hg
    exact ⟨_,env,t',⟨rfl,.inl ⟨hy,p,h,n',hd,by show H6 o.k cf t h0 n JE = .rv (Bi p t) h n'; rw [e3]; exact e1⟩⟩,ri,by rw [hy]; exact e5.trans (e2.trans e4)⟩
  ·exact ⟨_,env,t',⟨rfl,.inr hn⟩,ri,by rw [hn]⟩
 | no j =>
  have e0:Fh sm cf2 b (.no j) env t' h0 h1 n κ=Hn (AL (E1 b j) h0) (κ env t' h0 h1 n):=by
   show b.at j (fun r=>Bk r h0 _)=_
   rw [K4.at_eq,Bc]; rfl
  simp only [e0] at hg ⊢
  obtain ⟨h3,e3⟩:=KR hg
  exact ⟨_,env,t',⟨rfl,h3⟩,ri,e3⟩
 | rn i j o =>
  have ht:=ri.tells hok
  have e0:Fh sm cf2 b (.rn i j o) env t' h0 h1 n κ=JZ o.g (Bm sm env t') (fun κ=>VR (AL (E1 b j) h1) fun ob=>Ac (FQ o.k cf2 (Bm sm env t') (B5 (E1 b j) AT (some ob)) n JE) κ) (fun v=>CZ sm o.dst t' v fun t=>κ (BL o.dst v env) t h0 h1 n):=by
   have:∀ κ:V->R,(b.at j fun r=>Bk r h1 fun x=>VR x fun ob=>Bx r AT (some ob) fun hx=>Ac (FQ o.k cf2 (Bm sm env t') hx n JE) κ)=VR (AL (E1 b j) h1) fun ob=>Ac (FQ o.k cf2 (Bm sm env t') (B5 (E1 b j) AT (some ob)) n JE) κ:=fun κ=>by
    simp only [K4.at_eq,Bc,BD,Bt]; rfl
   cases o
   simp only [←this]
  simp only [e0] at hg ⊢
  simp only [GV ht.1 h2] at hg ⊢
  rw [Mj ht.2] at hg ⊢
  rcases EA hg with hy | hn
  ·rw [hy] at hg
   obtain ⟨ob,h3,e3⟩:=Tz hg
   rw [e3] at hg
   obtain ⟨v,h,n',e1,e2⟩:=K0 hg
   obtain ⟨t1',e4,ri1⟩:=ri.put o.dst v (fun t=>κ (BL o.dst v env) t h0 h1 n)
   exact ⟨_,_,_,.inl ⟨hy,ob,v,h,n',h3,e1,rfl⟩,ri1,by rw [hy,e3,e2,e4]⟩
  ·obtain ⟨t1',e3,ri1⟩:=ri.put o.dst Cf (fun t=>κ (BL o.dst Cf env) t h0 h1 n)
   exact ⟨_,_,_,.inr ⟨hn,rfl⟩,ri1,by rw [hn,e3]⟩
theorem Ik (h2:∀ f,cf2 (BC f)=cf f) {b:K4}:∀ {l:List Item} {dom:List K2} {env:Ren} {s:St} {t':S} {κ:Ren->S->Heap->Heap->K4->R},HO sm l dom=true->RI sm dom env s.t t'->(Di sm cf2 b l env t' s.h0 s.h1 s.n κ).good →
  ∃ (st:Nat->St) (env1:Ren) (t1':S),st 0=s∧(∀ i x,l[i]? = some x->Ia cf b x (st i) (st (i+1)))∧RI sm (I8 l dom) env1 (st l.length).t t1'∧Di sm cf2 b l env t' s.h0 s.h1 s.n κ=κ env1 t1' (st l.length).h0 (st l.length).h1 (st l.length).n
 | [],dom,env,s,t',κ,hok,ri,hg=>⟨fun _=>s,env,t',rfl,fun i x hx=>by simp at hx,ri,rfl⟩
 | x::l,dom,env,s,t',κ,hok,ri,hg=>by
  simp only [HO,Bool.and_eq_true] at hok
  have e0:Di sm cf2 b (x::l) env t' s.h0 s.h1 s.n κ=Fh sm cf2 b x env t' s.h0 s.h1 s.n fun env t h0 h1 n=>Di sm cf2 b l env t h0 h1 n κ:=rfl
  rw [e0] at hg
  obtain ⟨s',env1,t1',hs,ri1,e1⟩:=Oi h2 hok.1 ri hg
  rw [e1] at hg
  obtain ⟨st,env2,t2',h1,h3,ri2,h4⟩:=Ik h2 hok.2 ri1 hg
  refine ⟨fun i=>match i with | 0=>s | i+1=>st i,env2,t2',rfl,fun i y hy=>?_,ri2,?_⟩
  ·cases i with
   | zero=>simp at hy; subst hy; show Ia cf b x s (st 0); rw [h1]; exact hs
   | succ i=>exact h3 i y (by simpa using hy)
  ·rw [e0,e1,h4]; rfl
end
end Go.Ev

namespace Go.Ev
open Go.ChangeMaps (setBlock)
set_option linter.unusedVariables false
def R.sat (Φ:R->Prop):R->Prop
 | .fail _=>False
 | .both a b=>a.sat Φ∧b.sat Φ
 | .ok e t h n=>Φ (.ok e t h n)
 | .rv v h n=>Φ (.rv v h n)
theorem R.sat_good {Φ:R->Prop} {r:R} (h:r.sat Φ):r.good:=by cases r <;> first | exact h.elim | trivial
theorem R.sat_mono {Φ Ψ:R->Prop} (H:∀ r,Φ r->Ψ r):∀ {r:R},r.sat Φ->r.sat Ψ
 | .fail _,h=>h.elim
 | .both a b,h=>⟨R.sat_mono H h.1,R.sat_mono H h.2⟩
 | .ok _ _ _ _,h=>H _ h
 | .rv _ _ _,h=>H _ h
def Wh (q:K4) (h:Heap) (κ0:R) (κ:K4->Nat->List Nat->Nat->R):R :=
 Bk q h fun o=>@Option.rec Ob (fun _=>R) (.fail "") (fun o=>@Ob.rec (fun _=>R) (C2 "") (C2 "") κ κ0 (AV "") o) o
def Jt (v:V) (h:Heap) (n:K4) (κ:KV):R :=
 DC v (HM h n .it0 fun h' n'=>κ (.ptr n 0) h' n') (fun p=>UW p h fun _ _ c=>HM h n (.it p c [] c) fun h' n'=>κ (.ptr n 0) h' n')
def Ja (s:Nat) (es:List (V×V)):List Nat->(V->V->R)->R :=
 @List.rec (V×V) (fun _=>List Nat->(V->V->R)->R) (AV "")
  (fun e _ ih bs κ=>@List.rec Nat (fun _=>R) (.fail "") (fun b tl _=>br (Nat.beq b s) (@Prod.rec V V (fun _=>R) κ e) (ih tl κ)) bs) es
def G5 (v:V) (h:Heap) (n:K4) (κ:KV):R :=
 IR v fun q off=>br (Nat.beq off 0) (Wh q h (.fail "") fun p since seen c=>UW p h fun es bs clk=>br (Nat.beq clk c)
  (@List.rec Nat (fun _=>R) (.fail "") (fun s _ _=>Ja s es bs fun k x=>κ (.tup [k,x]) h n) seen) (.fail "")) (.fail "")
def QU (since:Nat) (bs:List Nat):Bool:=@List.rec Nat (fun _=>Bool) true (fun b _ ih=>br (Nat.ble (Nat.succ b) since) ih false) bs
def HG (b:Nat) (l:List Nat):Bool:=@List.rec Nat (fun _=>Bool) false (fun x _ ih=>br (Nat.beq x b) true ih) l
def UT (q p:K4) (since:Nat) (seen:List Nat) (clk:Nat) (h:Heap) (n:K4) (κ:KV) (e:V×V) (b:Nat):R :=
 Bx q h (some (.it p since (b::seen) clk)) fun h'=>@Prod.rec V V (fun _=>R) (fun k x=>κ (.tup [.bool true,k,x]) h' n) e
def Gm (seen:List Nat) (leaf:V×V->Nat->R) (es:List (V×V)):List Nat->R->R :=
 @List.rec (V×V) (fun _=>List Nat->R->R) (fun _ acc=>acc)
  (fun e _ ih bs acc=>@List.rec Nat (fun _=>R) (.fail "") (fun b tl _=>br (HG b seen) (ih tl acc) (ih tl (.both acc (leaf e b)))) bs) es
def Nd (seen:List Nat) (leaf:V×V->Nat->R) (es:List (V×V)):List Nat->R->R :=
 @List.rec (V×V) (fun _=>List Nat->R->R) (fun _ none=>none)
  (fun e es ih bs none=>@List.rec Nat (fun _=>R) (.fail "") (fun b tl _=>br (HG b seen) (ih tl none) (Gm seen leaf es tl (leaf e b))) bs) es
def Jr (v:V) (h:Heap) (n:K4) (κ:KV):R :=
 IR v fun q off=>br (Nat.beq off 0) (Wh q h (κ (.tup [.bool false]) h n) fun p since seen c=>UW p h fun es bs clk=>br (QU since bs) (br (Nat.ble since c)
  (Nd seen (UT q p since seen clk h n κ) es bs (κ (.tup [.bool false]) h n)) (.fail "")) (.fail "")) (.fail "")
section
variable {P:Program} {ρ:Env} {B N:Nat} {o:Oper} {t:Regs} {h:Heap} {n:K4}
theorem NF {q:K4} {κ0:R} {κ:K4->Nat->List Nat->Nat->R} (hg:(Wh q h κ0 κ).good) :
  (AL q h=some .it0∧Wh q h κ0 κ=κ0) ∨ ∃ p s l c,AL q h=some (.it p s l c)∧Wh q h κ0 κ=κ p s l c:=by
 have e:Wh q h κ0 κ=@Option.rec Ob (fun _=>R) (.fail "") (fun o=>@Ob.rec (fun _=>R) (C2 "") (C2 "") κ κ0 (AV "") o) (AL q h):=Bc _ _ _
 rw [e] at hg
 cases hx:AL q h with
 | none=>rw [hx] at hg; exact hg.elim
 | some ob =>
  rw [hx] at hg e
  cases ob with
  | c _ _ _=>exact hg.elim
  | m _ _ _=>exact hg.elim
  | it p s l c=>exact .inr ⟨p,s,l,c,rfl,e⟩
  | it0=>exact .inl ⟨rfl,e⟩
  | lp _ _=>exact hg.elim
def Tv (P:Program) (ρ:Env) (B N:Nat) (o:Oper) (t:Regs) (h:Heap) (n:K4) (f:KV->R):Prop :=
 ∀ (κ:KV) (Φ:R->Prop),(f κ).sat Φ->∀ (φ:B6) (a:Act) (w:World),TR ρ N φ t a->Gam ρ B h n φ w->∀ (K:Act->World->Prop) (Q:Exit->Act->World->Prop),
  (∀ v h1 n1,(κ v h1 n1).sat Φ->∀ φ' x w',Fr h h1 φ φ' n n1 w w'->Gam ρ B h1 n1 φ' w'->AG ρ φ' v x->K (a.put o.dst x) w')->o.wp P a w K Q
theorem CB.sp {f:KV->R} (H:CB P ρ B N o f t h n):Tv P ρ B N o t h n f:=fun κ Φ hs φ a w hT g K Q hK=>by
 obtain ⟨v,h1,n1,e,st⟩:=H κ (R.sat_good hs)
 rw [e] at hs
 exact st φ a w hT g K Q fun φ' x w' f1 g1 r1=>hK v h1 n1 hs φ' x w' f1 g1 r1
theorem Rk {ty kt e:TypeId} {x:Operand} {x':Opd} (ho:o.op = .range ty x) (hx:AY N x=some x') (ht:P.underlying ty=some (.map kt e)):CB P ρ B N o (Jt (ev x' t) h n) t h n:=by
 intro κ hg
 unfold Jt at hg ⊢
 rw [HX,Kz] at hg ⊢
 rcases Dn hg with ⟨hv,e1⟩ | ⟨p,hv,e1⟩
 ·rw [e1] at hg
  obtain ⟨n',hn,e2⟩:=Bs hg
  refine ⟨_,_,_,e1.trans e2,.value fun φ a w hT g=>?_⟩
  have g1:=Am hx hT
  rw [hv] at g1
  have gx:=BW g1
  refine ⟨_,.pointer (some ⟨w.heap.size,0,none⟩),w.alloc (.mapIter none 0 #[] 0),?_,Fr.alloc g.at_n (by omega) (Nat.le_refl _) (by omega) _ _ 0,g.alloc g.at_n (by omega) (by omega) .it0 rfl _ 0 fun φ' hle w' hw'=>⟨rfl,hw'⟩,CU⟩
  simp [execOp,ho,gx,C7,Instr.range,run_underlying ht,run_newObj]
 ·rw [e1] at hg
  obtain ⟨es,bs,c,hpm,e2⟩:=E9 hg
  rw [e2] at hg
  obtain ⟨n',hn,e3⟩:=Bs hg
  refine ⟨_,_,_,e1.trans (e2.trans e3),.value fun φ a w hT g=>?_⟩
  have g1:=Am hx hT
  rw [hv] at g1
  obtain ⟨b,s,tot,hφ,gx⟩:=F9 g1
  obtain ⟨ents,k1,k2,k3⟩:=g.obj p _ b s tot hpm hφ
  have hgo:(getObj b).run P w = .ok (.map ents c) w:=by simp [getObj,Sem.run,k1]
  refine ⟨_,.pointer (some ⟨w.heap.size,0,none⟩),w.alloc (.mapIter (some b) c #[] c),?_,Fr.alloc g.at_n (by omega) (Nat.le_refl _) (by omega) _ _ 0,g.alloc g.at_n (by omega) (by omega) (.it p c [] c) rfl _ 0 fun φ' hle w' hw'=>⟨b,s,tot,hle _ _ hφ,rfl,hw'⟩,CU⟩
  simp only [execOp,ho,gx,Instr.range,Sem.run_bind,run_underlying ht,Result.andThen_ok,hgo]
  simp [run_newObj]
theorem KD {s:Nat}:∀ {es:List (V×V)} {bs:List Nat} {κ:V->V->R},(Ja s es bs κ).good->∃ (i:Nat) (e:V×V),es[i]? = some e∧bs[i]? = some s∧(∀ j,j<i->bs[j]? ≠ some s)∧Ja s es bs κ=κ e.1 e.2
 | [],bs,κ,h=>h.elim
 | (k,x)::es,[],κ,h=>h.elim
 | (k,x)::es,b::bs,κ,h=>by
  have h:R.good (br (Nat.beq b s) (κ k x) (Ja s es bs κ)):=h
  cases hb:Nat.beq b s with
  | true =>
   refine ⟨0,(k,x),rfl,by rw [Nat.eq_of_beq_eq_true hb]; rfl,fun j hj=>by omega,?_⟩
   show br (Nat.beq b s) (κ k x) (Ja s es bs κ)=_
   rw [hb]; rfl
  | false =>
   rw [hb] at h
   obtain ⟨i,e,h1,h2,h3,h4⟩:=KD (show R.good (Ja s es bs κ) from h)
   refine ⟨i+1,e,by simpa using h1,by simpa using h2,fun j hj=>?_,?_⟩
   ·cases j with
    | zero=>intro e; simp at e; subst e; simp at hb
    | succ j=>simpa using h3 j (by omega)
   ·show br (Nat.beq b s) (κ k x) (Ja s es bs κ)=_
    rw [hb]; exact h4
theorem Uf {l:List MapEntry} {s:Nat}:∀ {i:Nat} {m:MapEntry},l[i]? = some m->m.born=s->(∀ j,j<i->(l.map (·.born))[j]? ≠ some s)->l.find? (·.born == s)=some m:=by
 induction l with
 | nil=>intro i m h; simp at h
 | cons x l ih =>
  intro i m h hm hj
  cases i with
  | zero=>simp at h; subst h; simp [hm]
  | succ i =>
   have h0:=hj 0 (by omega)
   simp at h0
   rw [List.find?_cons]
   have:(x.born == s)=false:=by simpa using h0
   rw [this]
   exact ih (by simpa using h) hm fun j hj'=>by have:=hj (j+1) (by omega); simpa using this
theorem Rm {x:Operand} {x':Opd} (ho:o.op = .entry x) (hx:AY N x=some x'):CB P ρ B N o (G5 (ev x' t) h n) t h n:=by
 intro κ hg
 unfold G5 at hg ⊢
 rw [Kz] at hg ⊢
 obtain ⟨q,off,hv,e1⟩:=CW hg
 rw [e1] at hg
 obtain ⟨h0,e2⟩:=Ao hg
 rw [e2] at hg
 have h0:=Nat.eq_of_beq_eq_true h0
 subst h0
 rcases NF hg with ⟨hq,e3⟩ | ⟨p,since,seen,c,hq,e3⟩
 ·rw [e3] at hg; exact hg.elim
 rw [e3] at hg
 obtain ⟨es,bs,clk,hp,e4⟩:=E9 hg
 rw [e4] at hg
 obtain ⟨h5,e5⟩:=Ao hg
 rw [e5] at hg
 have h5:=Nat.eq_of_beq_eq_true h5
 subst h5
 cases seen with
 | nil=>exact hg.elim
 | cons s seen =>
  obtain ⟨i,ee,k1,k2,k3,e6⟩:=KD (show R.good (Ja s es bs fun k x=>κ (.tup [k,x]) h n) from hg)
  refine ⟨_,h,n,e1.trans (e2.trans (e3.trans (e4.trans (e5.trans e6)))),.pure fun φ a w hT g=>?_⟩
  have g1:=Am hx hT
  rw [hv] at g1
  obtain ⟨b,sq,tot,hφ,gx⟩:=CQ g1
  have:=g.obj q _ b sq tot hq hφ
  obtain ⟨bm,sm,tm,hφm,hs0,hit⟩:=this
  subst hs0
  obtain ⟨ents,m1,m2,m3⟩:=g.obj p _ bm sm tm hp hφm
  obtain ⟨mm,hmm,hk,hvv⟩:=JW m2 k1
  have hborn:mm.born=s:=by
   have:(ents.toList.map (·.born))[i]? = some s:=by rw [m3]; exact k2
   rw [List.getElem?_map,hmm] at this
   simpa using this
  have hf:ents.find? (·.born == s)=some mm:=by
   rw [←Array.find?_toList]
   exact Uf hmm hborn fun j hj=>by rw [m3]; exact k3 j hj
  have hgo1:(getObj b).run P w = .ok (.mapIter (some bm) since (s::seen).reverse.toArray clk) w:=by simp [getObj,Sem.run,hit]
  have hgo2:(getObj bm).run P w = .ok (.map ents clk) w:=by simp [getObj,Sem.run,m1]
  have hback:(s::seen).reverse.toArray.back? = some s:=by simp
  refine ⟨.tuple #[mm.key,mm.val],?_,by simp only [AG,Bu]; exact ⟨_,rfl,_,_,rfl,hk,_,_,rfl,hvv,rfl⟩⟩
  simp only [execOp,ho,gx,Instr.entry,Nat.zero_add,Sem.run_bind,hgo1,Result.andThen_ok,hback,hgo2]
  simp [hf]
theorem QZ (b:Nat):∀ l:List Nat,HG b l=l.contains b
 | []=>rfl
 | x::l=>by
  show br (Nat.beq x b) true (HG b l)=_
  rw [QZ b l,List.contains_cons]
  cases hb:Nat.beq x b with
  | true=>rw [Nat.eq_of_beq_eq_true hb]; simp [br]
  | false =>
   have:(b == x)=false:=by
    cases h:b == x with
    | false=>rfl
    | true=>have:=eq_of_beq h; subst this; rw [Nat.beq_refl] at hb; cases hb
   rw [this]; rfl
theorem LT {since:Nat}:∀ {bs:List Nat},QU since bs=true->∀ b∈bs,b<since
 | [],_,b,hb=>by simp at hb
 | x::bs,h,b,hb=>by
  have h:br (Nat.ble (Nat.succ x) since) (QU since bs) false=true:=h
  cases hx:Nat.ble (Nat.succ x) since with
  | false=>rw [hx] at h; cases h
  | true =>
   rw [hx] at h
   rcases List.mem_cons.1 hb with e | hb
   ·subst e; exact Ap.1 hx
   ·exact LT (show QU since bs=true from h) b hb
section
variable {seen:List Nat} {leaf:V×V->Nat->R} {Φ:R->Prop}
theorem Hz:∀ {es:List (V×V)} {bs:List Nat} {acc:R},(Gm seen leaf es bs acc).sat Φ->acc.sat Φ ∧ ∀ (i:Nat) (e:V×V) (b:Nat),es[i]? = some e->bs[i]? = some b->HG b seen=false->(leaf e b).sat Φ
 | [],bs,acc,h=>⟨h,fun i e b he=>by simp at he⟩
 | e0::es,[],acc,h=>h.elim
 | e0::es,b0::bs,acc,h=>by
  have h:(br (HG b0 seen) (Gm seen leaf es bs acc) (Gm seen leaf es bs (.both acc (leaf e0 b0)))).sat Φ:=h
  cases hm:HG b0 seen with
  | true =>
   rw [hm] at h
   obtain ⟨h1,h2⟩:=Hz (show (Gm seen leaf es bs acc).sat Φ from h)
   refine ⟨h1,fun i e b he hb hn=>?_⟩
   cases i with
   | zero=>simp at he hb; subst he hb; rw [hm] at hn; cases hn
   | succ i=>exact h2 i e b (by simpa using he) (by simpa using hb) hn
  | false =>
   rw [hm] at h
   obtain ⟨h1,h2⟩:=Hz (show (Gm seen leaf es bs (.both acc (leaf e0 b0))).sat Φ from h)
   refine ⟨h1.1,fun i e b he hb hn=>?_⟩
   cases i with
   | zero=>simp at he hb; subst he hb; exact h1.2
   | succ i=>exact h2 i e b (by simpa using he) (by simpa using hb) hn
theorem Kn:∀ {es:List (V×V)} {bs:List Nat} {none:R},(Nd seen leaf es bs none).sat Φ->((∀ b∈bs,HG b seen=true)->es.length=bs.length->none.sat Φ) ∧ ∀ (i:Nat) (e:V×V) (b:Nat),es[i]? = some e->bs[i]? = some b->HG b seen=false->(leaf e b).sat Φ
 | [],bs,acc,h=>⟨fun _ _=>h,fun i e b he=>by simp at he⟩
 | e0::es,[],acc,h=>h.elim
 | e0::es,b0::bs,acc,h=>by
  have h:(br (HG b0 seen) (Nd seen leaf es bs acc) (Gm seen leaf es bs (leaf e0 b0))).sat Φ:=h
  cases hm:HG b0 seen with
  | true =>
   rw [hm] at h
   obtain ⟨h1,h2⟩:=Kn (show (Nd seen leaf es bs acc).sat Φ from h)
   refine ⟨fun ha hl=>h1 (fun b hb=>ha b (List.mem_cons_of_mem _ hb)) (by simpa using hl),fun i e b he hb hn=>?_⟩
   cases i with
   | zero=>simp at he hb; subst he hb; rw [hm] at hn; cases hn
   | succ i=>exact h2 i e b (by simpa using he) (by simpa using hb) hn
  | false =>
   rw [hm] at h
   obtain ⟨h1,h2⟩:=Hz (show (Gm seen leaf es bs (leaf e0 b0)).sat Φ from h)
   refine ⟨fun ha _=>absurd (ha b0 (List.mem_cons_self ..)) (by rw [hm]; simp),fun i e b he hb hn=>?_⟩
   cases i with
   | zero=>simp at he hb; subst he hb; exact h1
   | succ i=>exact h2 i e b (by simpa using he) (by simpa using hb) hn
end
theorem VB {x:Operand} {x':Opd} (ho:o.op = .next x false) (hx:AY N x=some x'):Tv P ρ B N o t h n (Jr (ev x' t) h n):=by
 intro κ Φ hs φ a w hT g K Q hK
 unfold Jr at hs
 rw [Kz] at hs
 obtain ⟨q,off,hv,e1⟩:=CW (R.sat_good hs)
 rw [e1] at hs
 obtain ⟨h0,e2⟩:=Ao (R.sat_good hs)
 rw [e2] at hs
 have h0:=Nat.eq_of_beq_eq_true h0
 subst h0
 have g1:=Am hx hT
 rw [hv] at g1
 obtain ⟨b,sq,tot,hφ,gx⟩:=CQ g1
 rcases NF (R.sat_good hs) with ⟨hq,e3⟩ | ⟨p,since,seen,c,hq,e3⟩
 ·rw [e3] at hs
  obtain ⟨hs0,hit⟩:=g.obj q _ b sq tot hq hφ
  subst hs0
  have hgo1:(getObj b).run P w = .ok (.mapIter none 0 #[] 0) w:=by simp [getObj,Sem.run,hit]
  have hrun:(execOp a.eval o).run P w = .ok (.value (.tuple #[.bool false])) w:=by
   simp only [execOp,ho,gx,Instr.next,Nat.zero_add,Sem.run_bind,hgo1,Result.andThen_ok]
   simp
  unfold Oper.wp
  rw [hrun]
  exact hK _ _ _ hs φ _ w (Fr.refl h φ n w) g (by simp only [AG,Bu]; exact ⟨_,rfl,_,_,rfl,rfl,rfl⟩)
 ·rw [e3] at hs
  obtain ⟨es,bs,clk,hp,e4⟩:=E9 (R.sat_good hs)
  rw [e4] at hs
  obtain ⟨h5,e5⟩:=Ao (R.sat_good hs)
  rw [e5] at hs
  obtain ⟨h6,e6⟩:=Ao (R.sat_good hs)
  rw [e6] at hs
  obtain ⟨c1,c2⟩:=Kn hs
  obtain ⟨bm,sm,tm,hφm,hs0,hit⟩:=g.obj q _ b sq tot hq hφ
  subst hs0
  obtain ⟨ents,m1,m2,m3⟩:=g.obj p _ bm sm tm hp hφm
  have hold:∀ x∈ents.toList,x.born<since:=fun x hx=>LT h5 _ (by rw [←m3]; exact List.mem_map.2 ⟨x,hx,rfl⟩)
  have hlen:es.length=bs.length:=by rw [←F8 m2,←m3,List.length_map]
  have hcon:∀ k:Nat,seen.reverse.toArray.contains k=HG k seen:=fun k=>by rw [QZ]; simp
  rcases run_next_at (P:=P) w o.type b bm since c seen.reverse.toArray ents clk hit m1 hold (Ap.1 h6) with ⟨hz,hrun⟩ | ⟨e,he,w1,hal,hrun⟩
  ·have hall:∀ k∈bs,HG k seen=true:=fun k hk=>by
    rw [←m3] at hk
    obtain ⟨x,hx,rfl⟩:=List.mem_map.1 hk
    cases hm:HG x.born seen with
    | true=>rfl
    | false =>
     have:x∈leftOf ents seen.reverse.toArray:=by
      unfold leftOf
      rw [Array.mem_filter]
      exact ⟨by simpa using hx,by rw [hcon,hm]; rfl⟩
     rw [Array.eq_empty_of_size_eq_zero hz] at this
     simp at this
   have hx:(execOp a.eval o).run P w = .ok (.value (.tuple #[.bool false])) w:=by
    simp only [execOp,ho,gx,Nat.zero_add,Sem.run_bind,hrun,Result.andThen_ok]
    simp
   unfold Oper.wp
   rw [hx]
   exact hK _ _ _ (c1 hall hlen) φ _ w (Fr.refl h φ n w) g (by simp only [AG,Bu]; exact ⟨_,rfl,_,_,rfl,rfl,rfl⟩)
  ·have he':e∈ents.toList∧HG e.born seen=false:=by
    unfold leftOf at he
    have he:=Array.mem_filter.1 (Array.mem_toList_iff.1 he)
    refine ⟨by simpa using he.1,?_⟩
    have:=he.2
    rw [hcon] at this
    simpa using this
   obtain ⟨i,hi⟩:=List.getElem?_of_mem he'.1
   have hil:i<es.length:=by rw [←F8 m2]; exact (List.getElem?_eq_some_iff.1 hi).1
   obtain ⟨mm,hmm,hk1,hk2⟩:=JW m2 (List.getElem?_eq_getElem hil)
   rw [hi] at hmm; cases hmm
   have hb:bs[i]? = some e.born:=by rw [←m3,List.getElem?_map,hi]; rfl
   have leaf:=c2 i _ _ (List.getElem?_eq_getElem hil) hb he'.2
   unfold UT at leaf
   rw [BD,Bt] at leaf
   have g1:Gam ρ B h n φ w1:=by
    rcases hal with e | e
    ·rw [e]; exact g
    ·rw [e]; exact g.drew
   have f1:Fr h h φ φ n n w w1:=by
    rcases hal with e | e
    ·rw [e]; exact Fr.refl h φ n _
    ·rw [e]; exact Fr.drew
   have hw:setBlock w1 b (.mapIter (some bm) since (seen.reverse.toArray.push e.born) clk)=CR w1 b (.mapIter (some bm) since (e.born::seen).reverse.toArray clk):=by
    have:seen.reverse.toArray.push e.born=(e.born::seen).reverse.toArray:=by simp
    rw [this]; rfl
   rw [hw] at hrun
   have hbl:=(g1.blk q b 0 tot hφ).2
   have g2:Gam ρ B (B5 q h (some (.it p since (e.born::seen) clk))) n φ (CR w1 b (.mapIter (some bm) since (e.born::seen).reverse.toArray clk)) :=
    g1.write (o:=.it p since seen c) (o':=.it p since (e.born::seen) clk) hq hφ rfl rfl ⟨bm,sm,tm,hφm,rfl,Dr hbl⟩
   have f2:Fr h (B5 q h (some (.it p since (e.born::seen) clk))) φ φ n n w1 (CR w1 b (.mapIter (some bm) since (e.born::seen).reverse.toArray clk)) :=
    Fr.write (o:=.it p since seen c) hq hφ
   have hx:(execOp a.eval o).run P w = .ok (.value (.tuple #[.bool true,e.key,e.val])) (CR w1 b (.mapIter (some bm) since (e.born::seen).reverse.toArray clk)):=by
    simp only [execOp,ho,gx,Nat.zero_add,Sem.run_bind,hrun,Result.andThen_ok]
    simp
   unfold Oper.wp
   rw [hx]
   exact hK _ _ _ leaf φ _ _ (Fr.trans f1 f2) g2 (by simp only [AG,Bu]; exact ⟨_,rfl,_,_,rfl,rfl,_,_,rfl,hk1,_,_,rfl,hk2,rfl⟩)
end
end Go.Ev

namespace Go.Ev
set_option linter.unusedVariables false
def Cx (r:R) (κ:KV):R:=@R.rec (fun _=>R) (Fp "") (fun v h n=>κ v h n) (fun w=>.fail w) (fun _ _ a b=>.both a b) r
def Vg (cf:FZ) (p:K4) (l:List V) (h:Heap) (n:K4) (κ:KV):R :=
 Bk p h fun o=>@Option.rec Ob (fun _=>R) (.fail "") (fun o=>@Ob.rec (fun _=>R) (C2 "") (C2 "") (Fp "") (.fail "")
  (fun f box=>@List.rec V (fun _=>R) (.fail "") (fun x l _=>@List.rec V (fun _=>R)
   (Bx p h none fun h=>Cx (cf (BC f) [.oth .no,.ptr box 0,x] h n) fun v h n=>Bx p h (some (.lp f box)) fun h=>κ v h n) (C2 "") l) l) o) o
def Hy (cf:FZ) (v:V) (l:List V) (h:Heap) (n:K4) (κ:KV):R :=
 @V.rec (fun _=>R) (fun _=>Unit) (AV "") (Bb "") (AV "") (Dt "") (AV "") (AV "") (Bb "") (Bb "")
  (fun f caps _=>ES l caps fun l=>Cx (cf (BC f) l h n) κ) (AV "")
  (fun o=>@Ot.rec (fun _=>R) (.fail "") (Bb "") (fun p=>Vg cf p l h n κ) (.fail "") (C2 "") (AV "") (.fail "") (AV "") (Fp "") (Fp "") (C2 "") (AV "") o) () (fun _ _ _ _=>()) v
abbrev UO (cf:FZ) (sp:Sp) (ε:Ib) (h:Heap) (n:K4) (κ:KV):R :=
 @Sp.rec (fun _=>R) (fun x=>ε x fun v=>Jt v h n κ) (fun x=>ε x fun v=>Jr v h n κ) (fun x=>ε x fun v=>G5 v h n κ)
  (fun f l=>Fj ε l fun l=>Cx (cf (BC f) l h n) κ) (fun x l=>ε x fun v=>Fj ε l fun l=>Hy cf v l h n κ) sp
section
variable {P:Program} {ρ:Env} {B N:Nat}
def Ly:Option Nat->Fence
 | none=>Fence.wide
 | some l=>Fence.wide.inRound l
theorem Tu (l:Option Nat) (f:FuncId):(Ly l).fn f:=by cases l <;> trivial
theorem RH (l:Option Nat):(Ly l).depth=none:=by cases l <;> rfl
theorem OQ {l:Option Nat} {n:Nat} {f:FuncId} {args:Array Value} {w:World} {R:Ending->World->Prop} (h:Calls P f args w R):CallsIn (Ly l) n P f args w R:=by
 cases l with
 | none=>exact callsIn_wide.2 h
 | some l=>exact (show CallsIn Fence.wide n P f args w R from callsIn_wide.2 h)
theorem UG {l:Option Nat} {n:Nat} {o:Oper} {a:Act} {K K':Act->World->Prop} {Q:Exit->Act->World->Prop} (hK:∀ a w,K a w->K' a w):∀ {r:Result Next},o.upon P a K Q r->o.uponIn (Ly l) n P a K' Q r:=by
 have hd:(Ly l).depth.isSome=true->1≤n:=fun h=>by rw [RH] at h; cases h
 intro r h
 cases r with
 | ok x w =>
  cases x with
  | value v=>exact hK _ _ h
  | skip=>exact hK _ _ h
  | defer d=>exact hK _ _ h
  | enter f args =>
   refine ⟨hd,(OQ (show Calls P f args w _ from h)).mono fun e w' he=>?_⟩
   cases e with
   | returned v=>exact hK _ _ he
   | panicked c=>exact he
   | outgrown=>exact he
  | row row args =>
   refine ⟨hd,fun c cs _=>?_⟩
   obtain ⟨v,w',hr,hs⟩:=(show Rows P row args w _ from h) c cs
   refine ⟨v,w',hK _ _ hr,?_⟩
   cases l with
   | none=>exact stepsIn_wide.2 hs
   | some l=>exact (show StepsIn (Machine.fenced P Fence.wide) P _ _ from stepsIn_wide.2 hs)
  | _=>exact h.elim
 | halt x w=>cases x <;> first | exact h | exact h.elim
theorem Qh {l:Option Nat} {n:Nat} {o:Oper} {a:Act} {w:World} {K K':Act->World->Prop} {Q:Exit->Act->World->Prop} (hd:l=none ∨ ∀ c,o.op ≠ .defer c) (hK:∀ a w,K a w->K' a w) (h:o.wp P a w K Q):o.wpIn (Ly l) n P a w K' Q:=by
 refine ⟨fun f _=>Tu l f,?_⟩
 have e:o.semAt (Ly l).round a.eval=execOp a.eval o:=by
  cases l with
  | none=>rfl
  | some l =>
   rcases hd with h | h
   ·cases h
   ·exact Oper.semAt_eq _ _ _ h
 rw [e]
 exact UG hK h
theorem DK {l:Option Nat} {n:Nat} {ops:Array Oper} {Q:Exit->Act->World->Prop} {r:List Oper}:∀ {os:List Oper} {a:Act} {w:World},(l=none ∨ ∀ o∈os,∀ c,o.op ≠ .defer c) →
  F6 P ops Q (wpListIn (Ly l) n P ops Q r) os a w->wpListIn (Ly l) n P ops Q (os++r) a w
 | [],_,_,_,h=>h
 | o::os,a,w,hd,h=>by
  show wpListIn (Ly l) n P ops Q (o::(os++r)) a w
  simp only [wpListIn]
  unfold F6 at h
  have hd1:l=none ∨ ∀ c,o.op ≠ .defer c:=hd.imp id fun h=>h o (List.mem_cons_self ..)
  have hd2:l=none ∨ ∀ o∈os,∀ c,o.op ≠ .defer c:=hd.imp id fun h o ho=>h o (List.mem_cons_of_mem _ ho)
  split
  ·rw [if_pos (by assumption)] at h
   exact Qh hd1 (fun a w h=>DK hd2 h) h
  ·rw [if_neg (by assumption)] at h
   exact ⟨fun f _=>Tu l f,DK hd2 h⟩
def Gn (P:Program) (ρ:Env) (B:Nat) (cf:CF):Prop :=
 ∀ f args h n (Φ:R->Prop),(cf f args h n).sat Φ->∀ φ w (xs:Array Value),Gam ρ B h n φ w->Bu ρ φ args xs.toList →
  HV P f xs w fun x w'=>∃ v h1 n1 φ',Φ (.rv v h1 n1)∧Fr h h1 φ φ' n n1 w w'∧Gam ρ B h1 n1 φ' w'∧AG ρ φ' v x
theorem Gn.ok {cf:CF} (H:Gn P ρ B cf):DU P ρ B cf:=fun f args h n v h1 n1 hr φ w xs g hx o a K Q hK=>by
 refine H f args h n (fun r=>r = .rv v h1 n1) (by rw [hr]; exact rfl) φ w xs g hx o a K Q fun x w' ⟨v',h',n',φ',e,f1,g1,r1⟩=>hK x w' ?_
 cases e
 exact ⟨φ',f1,g1,r1⟩
def F7 (A:ApC) (f:FuncId) (tmps:Array Value) (D:Nat):Loop:={ state:=.ready,pending:=none,fn:=f,tmps,params:=#[A.par],assign:=A.asg,body:=A.bod,defers:=D }
def FJ (P:Program) (ρ:Env) (B:Nat) (cf:CF):Prop :=
 ∀ f A fn,ρ.ap f=some A->∀ box x h n (Φ:R->Prop),(cf f [.oth .no,.ptr box 0,x] h n).sat Φ->∀ φ w (tmps:Array Value) X l D,Gam ρ B h n φ w->w.heap[l]? = some (.loop (F7 A fn tmps D)) →
  (∀ q s tot,φ q=some (l,s,tot)->AL q h=none)->tmps.size=A.ntm->AG ρ φ (.ptr box 0) (tmps.getD A.box undef)->AG ρ φ x X →
  RoundIn Fence.wide 0 P l fn (tmps.setIfInBounds A.par X) A.asg A.bod w fun e w'=>e = .returned (.bool true) ∧
   ∃ v h1 n1 φ',v = .bool true∧Φ (.rv v h1 n1)∧Fr h h1 φ φ' n n1 w w'∧Gam ρ B h1 n1 φ' w'
def Vt (P:Program) (ρ:Env) (B N:Nat) (o:Oper) (t:Regs) (h:Heap) (n:K4) (f:KV->R):Prop :=
 ∀ (κ:KV) (Φ:R->Prop),(f κ).sat Φ->∀ (φ:B6) (a:Act) (w:World),TR ρ N φ t a->Gam ρ B h n φ w->∀ (K:Act->World->Prop) (Q:Exit->Act->World->Prop),
  (∀ v h1 n1,(κ v h1 n1).sat Φ->∀ φ' x w',Fr h h1 φ φ' n n1 w w'->Gam ρ B h1 n1 φ' w'->AG ρ φ' v x->K (a.put o.dst x) w')->o.wpIn (Ly none) 0 P a w K Q
section
variable {o:Oper} {t:Regs} {h:Heap} {n:K4} {cf:CF} {cf2:FZ}
theorem Tv.in_ {f:KV->R} (H:Tv P ρ B N o t h n f):Vt P ρ B N o t h n f:=fun κ Φ hs φ a w hT g K Q hK=>Qh (.inl rfl) (fun _ _ h=>h) (H κ Φ hs φ a w hT g K Q hK)
def V2 (κ:KV) (Φ:R->Prop):R->Prop
 | .rv v h n=>(κ v h n).sat Φ
 | _=>False
theorem DW {κ:KV} {Φ:R->Prop}:∀ {r:R},(Cx r κ).sat Φ->r.sat (V2 κ Φ)
 | .ok _ _ _ _,h=>h.elim
 | .rv _ _ _,h=>h
 | .fail _,h=>h.elim
 | .both a b,h=>⟨DW (r:=a) h.1,DW (r:=b) h.2⟩
theorem Vz {ct:Call} {f:FuncId} {args:List Opd} (hcf:Gn P ρ B cf) (h2:∀ f,cf2 (BC f)=cf f) (ho:o.op = .call ct) (hc:ct.callee = .value (.func f)) (ha:BB N ct.args.toList=some args) :
  Tv P ρ B N o t h n fun κ=>Cx (cf2 (BC f) (args.map (ev · t)) h n) κ:=by
 intro κ Φ hs φ a w hT g K Q hK
 have hs:=DW hs
 rw [h2] at hs
 have:=hcf f _ h n _ hs φ w (ct.args.map a.eval) g (by rw [Array.toList_map]; exact Ew ha hT) o a K Q (fun x w' ⟨v,h1,n1,φ',hΦ,f1,g1,r1⟩=>hK v h1 n1 hΦ φ' x w' f1 g1 r1)
 unfold Oper.wp
 have e3:(execOp a.eval o).run P w=(callFunc f (ct.args.map a.eval)).run P w:=by
  simp [execOp,ho,resolve,hc,Act.eval,Deferred.ofValue,invoke]
 rw [e3]; exact this
theorem Gam.back {h1:Heap} {n1 p:K4} {φ φ1:B6} {w w1:World} {ob:Ob} {b s tot:Nat} (g:Gam ρ B h n φ w) (hp:AL p h=some ob) (hφ:φ p=some (b,s,tot)) (hsup:Ip ob=false) (hprev:BP ob=none)
  (f1:Fr (B5 p h none) h1 φ φ1 n n1 w w1) (g1:Gam ρ B h1 n1 φ1 w1) (hw:w1.heap[b]? = w.heap[b]?) :
  Gam ρ B (B5 p h1 (some ob)) n1 φ1 w1∧Fr h (B5 p h1 (some ob)) φ φ1 n n1 w w1:=by
 have out:∀ q o' s' tot',p≠q->AL q h1=some o'->φ1 q=some (b,s',tot')->False:=fun q o' s' tot' hne hq hx=>by
  have key:∀ r o2 sr tr,p≠r->AL r h=some o2->φ r=some (b,sr,tr)->False:=fun r o2 sr tr hpr hr hxr=>by
   rcases g.sep p r ob o2 b s tot sr tr hpr hp hr hφ hxr with e | e
   ·rw [hprev] at e; cases e
   ·have:=g.sup r p o2 ob b sr tr s tot hr e hp hxr hφ
    rw [hsup] at this; cases this
  rcases f1.fresh q b s' tot' hx with e | e | ⟨r,sr,tr,hr,hne'⟩
  ·cases hq':AL q h with
   | none =>
    have:=f1.dm q (by rw [e]; simp) (by rw [As _ _ hne]; exact hq')
    rw [this] at hq; cases hq
   | some o2=>exact key q o2 s' tot' hne hq' e
  ·have:=(g.blk p b s tot hφ).2; omega
  ·by_cases e:p=r
   ·subst e; exact hne' (AF _ _ _)
   ·rw [As _ _ e] at hne'
    cases hr':AL r h with
    | none=>exact hne' hr'
    | some o2=>exact key r o2 sr tr e hr' hr
 have hφ1:=f1.ext _ _ hφ
 refine ⟨⟨g1.base,g1.dom,g1.blk,fun q o' b' s' tot' hq hx=>?_,fun q r o1 o2 b' s1 t1 s2 t2 hne hq hr hx hy=>?_,fun q r o1 o2 b' s1 t1 s2 t2 hq hpr hr hx hy=>?_,g1.glob⟩,
  ⟨f1.ext,f1.new,f1.nn,f1.os,f1.tape,f1.out,f1.size,fun b' hb hn=>f1.old b' hb fun q s' tot' hx=>?_,fun q b' s' tot' hx=>?_,fun q hq hn=>?_⟩⟩
 ·rcases BA hq with ⟨rfl,e⟩ | ⟨hne,hq⟩
  ·cases e
   rw [hφ1] at hx; cases hx
   exact Ca hw (DX f1.ext (g.obj p _ _ _ _ hp hφ))
  ·exact g1.obj q o' b' s' tot' hq hx
 ·rcases BA hq with ⟨rfl,e⟩ | ⟨hq',hq⟩
  ·rw [hφ1] at hx; cases hx
   rcases BA hr with ⟨e',_⟩ | ⟨hr',hr⟩
   ·exact absurd e' hne
   ·exact (out r o2 s2 t2 hr' hr hy).elim
  ·rcases BA hr with ⟨rfl,e⟩ | ⟨hr',hr⟩
   ·rw [hφ1] at hy; cases hy
    exact (out q o1 s1 t1 hq' hq hx).elim
   ·exact g1.sep q r o1 o2 b' s1 t1 s2 t2 hne hq hr hx hy
 ·rcases BA hq with ⟨rfl,e⟩ | ⟨hq',hq⟩
  ·cases e; rw [hprev] at hpr; cases hpr
  ·rcases BA hr with ⟨rfl,e⟩ | ⟨hr',hr⟩
   ·rw [hφ1] at hy; cases hy
    exact (out q o1 s1 t1 hq' hq hx).elim
   ·exact g1.sup q r o1 o2 b' s1 t1 s2 t2 hq hpr hr hx hy
 ·by_cases e:p=q
  ·subst e; exact AF _ _ _
  ·rw [As _ _ e]; exact hn q s' tot' hx
 ·rcases f1.fresh q b' s' tot' hx with e | e | ⟨r,sr,tr,hr,hne'⟩
  ·exact .inl e
  ·exact .inr (.inl e)
  ·refine .inr (.inr ⟨r,sr,tr,hr,fun hn=>hne' ?_⟩)
   by_cases e:p=r
   ·subst e; exact AF _ _ _
   ·rw [As _ _ e]; exact hn
 ·have hne:p≠q:=fun e=>by subst e; rw [hp] at hn; cases hn
  rw [As _ _ hne]
  exact f1.dm q hq (by rw [As _ _ hne]; exact hn)
theorem Gam.aside {p:K4} {φ:B6} {w:World} (g:Gam ρ B h n φ w):Gam ρ B (B5 p h none) n φ w:=by
 have get:∀ q o,AL q (B5 p h none)=some o->AL q h=some o:=fun q o hq=>by
  rcases BA hq with ⟨_,e⟩ | ⟨_,hq⟩
  ·cases e
  ·exact hq
 exact ⟨g.base,g.dom,g.blk,fun q o b s t hq hx=>g.obj q o b s t (get q o hq) hx,fun q r o o' b s t s' t' hne hq hr hx hy=>g.sep q r o o' b s t s' t' hne (get q o hq) (get r o' hr) hx hy,
  fun q r o o' b s t s' t' hq hpr hr hx hy=>g.sup q r o o' b s t s' t' (get q o hq) hpr (get r o' hr) hx hy,g.glob⟩
theorem VM {ct:Call} {x:Operand} {x':Opd} {args:List Opd} (hcf:Gn P ρ B cf) (hR:FJ P ρ B cf) (h2:∀ f,cf2 (BC f)=cf f) (ho:o.op = .call ct) (hc:ct.callee = .value x) (hx:AY N x=some x') (ha:BB N ct.args.toList=some args) :
  Vt P ρ B N o t h n fun κ=>Hy cf2 (ev x' t) (args.map (ev · t)) h n κ:=by
 intro κ Φ hs φ a w hT g K Q hK
 have g1:=Am hx hT
 have gargs:=Ew ha hT
 cases hv:ev x' t with
 | fn f caps =>
  rw [hv] at g1 hs
  have hs:(ES (args.map (ev · t)) caps fun l=>Cx (cf2 (BC f) l h n) κ).sat Φ:=hs
  rw [Em] at hs
  have hs:=DW hs
  rw [h2] at hs
  obtain ⟨cs,gx,hcs⟩:=IA g1
  refine Qh (.inl rfl) (fun _ _ h=>h) ?_
  have:=hcf f _ h n _ hs φ w (ct.args.map a.eval++cs) g (by rw [Array.toList_append,Array.toList_map]; exact F4 gargs hcs) o a K Q (fun x w' ⟨v,h1,n1,φ',hΦ,f1,g1,r1⟩=>hK v h1 n1 hΦ φ' x w' f1 g1 r1)
  unfold Oper.wp
  have e3:(execOp a.eval o).run P w=(callFunc f (ct.args.map a.eval++cs)).run P w:=by
   simp [execOp,ho,resolve,hc,gx,Deferred.ofValue,invoke]
  rw [e3]; exact this
 | oth ot =>
  rw [hv] at g1 hs
  cases ot with
  | any=>exact hs.elim
  | sym i=>exact hs.elim
  | no=>exact hs.elim
  | iv k lo hi=>exact hs.elim
  | os lo hi=>exact hs.elim
  | bl=>exact hs.elim
  | rs m j=>exact hs.elim
  | ss lo hi n c=>exact hs.elim
  | ro i lo hi z=>exact hs.elim
  | ap i j m=>exact hs.elim
  | sy k i=>exact hs.elim
  | yl p =>
   have hs:(Vg cf2 p (args.map (ev · t)) h n κ).sat Φ:=hs
   unfold Vg at hs
   rw [Bc] at hs
   cases hob:AL p h with
   | none=>rw [hob] at hs; exact hs.elim
   | some ob =>
    rw [hob] at hs
    cases ob with
    | c _ _ _=>exact hs.elim
    | m _ _ _=>exact hs.elim
    | it _ _ _ _=>exact hs.elim
    | it0=>exact hs.elim
    | lp f box =>
     generalize hal:args.map (ev · t)=al at hs gargs
     match al,hs,gargs,hal with
     | [],hs,_,_=>exact hs.elim
     | _::_::_,hs,_,_=>exact hs.elim
     | [y],hs,gargs,hal =>
      have hs:(Bx p h none fun h=>Cx (cf2 (BC f) [.oth .no,.ptr box 0,y] h n) fun v h n=>Bx p h (some (.lp f box)) fun h=>κ v h n).sat Φ:=hs
      rw [BD,Bt] at hs
      have hs:=DW hs
      rw [h2] at hs
      have g1:∃ b s tot,φ p=some (b,s,tot)∧a.eval x = .func (.yield b) #[] #[]:=by simpa only [AG] using g1
      obtain ⟨b,s,tot,hφ,gx⟩:=g1
      obtain ⟨hs0,A,fn,tmps,D,hA,hrec,hsz,hbox⟩:=g.obj p _ b s tot hob hφ
      subst hs0
      obtain ⟨X,l0,hX,rX,h0⟩:=AE.1 gargs
      have h0:=AR.1 h0
      subst h0
      have hargs:ct.args.map a.eval = #[X]:=by
       have:(ct.args.map a.eval).toList=[X]:=by rw [Array.toList_map]; exact hX
       cases hh:ct.args.map a.eval with
       | mk l=>rw [hh] at this; simp at this; rw [this]
      have unc:∀ q s tot,φ q=some (b,s,tot)->AL q (B5 p h none)=none:=fun q s' tot' hq=>by
       by_cases e:p=q
       ·subst e; exact AF _ _ _
       ·rw [As _ _ e]
        cases hq':AL q h with
        | none=>rfl
        | some o2 =>
         rcases g.sep p q _ o2 b 0 tot s' tot' e hob hq' hφ hq with e | e
         ·cases e
         ·have:=g.sup q p o2 _ b s' tot' 0 tot hq' e hob hq hφ; cases this
      have rnd:=hR f A fn hA box y _ n _ hs φ w tmps X b D g.aside hrec unc hsz hbox rX
      refine ⟨fun f _=>trivial,?_⟩
      have e3:(o.semAt (Ly none).round a.eval).run P w = .ok (.round b fn (tmps.setIfInBounds A.par X) A.asg A.bod) w:=by
       have e4:(Instr.yield b #[X]).run P w = .ok (.round b fn (tmps.setIfInBounds A.par X) A.asg A.bod) w:=by
        have:=run_yield (P:=P) (args:=#[X]) hrec rfl
        simpa [F7] using this
       show (execOp a.eval o).run P w=_
       simp [execOp,ho,resolve,hc,gx,Deferred.ofValue,invoke,hargs,e4]
      rw [e3]
      refine ⟨fun h=>(by cases h),rnd.mono fun e w' ⟨he,v,h1,n1,φ',hv,hΦ,f1,g1⟩=>?_⟩
      subst he
      have hΦ:(Bx p h1 (some (.lp f box)) fun h=>κ v h n1).sat Φ:=hΦ
      rw [BD,Bt] at hΦ
      subst hv
      have hbl:=(g.blk p b 0 tot hφ).2
      have hw':w'.heap[b]? = w.heap[b]?:=f1.old b hbl unc
      obtain ⟨g2,f2⟩:=g.back hob hφ rfl rfl f1 g1 hw'
      exact hK _ _ _ hΦ φ' (.bool true) w' f2 g2 (by simp only [AG])
 | _=>rw [hv] at hs; exact hs.elim
end
end
end Go.Ev
